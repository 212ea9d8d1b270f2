import PyProof.Rows.All
import Wide.All
import OpenK.AllK
import Wide.FinOn
import PySem.Challenge.RW_clearfloor_k94_whole_the_log_is_the_flee
import KE.KStateDown
import KE.KExcSuper
import HandS.ExcInit
import HandS.TryOnly
import HandS.ForMost
import HandS.Defaults
import HandS.Head0
import HandS.Head1
import HandS.Head2
import HandS.HeadEnd
import HandS.HeadHook1
import HandS.HeadHook2
import HandS.HeadHook3
import HandS.HeadHook4
import HandS.Flow
import HandS.SortInts
import HandS.Zip
import HandS.Rev
import HandS.AnyAll
import HandS.MakeKwOnly
import KE.DataFind
import HandS.Deep
import HandS.RevTup
import PyProof.ListNew
import HandS.TupSets
import HandS.SetBool
import OpenK.KTop
import HandS.FStr
import HandS.Replace
import HandS.StrMore
import HandS.SortKw
import HandS.WordsExc
import KE.KIndexOf
import PyProof.Rows.StrCase
import HandS.EndTab
set_option Elab.async false
set_option linter.all false
set_option maxRecDepth 100000
set_option maxHeartbeats 0
namespace Fl
open PySem PySem.Spec PyProof.Rows L2
def top (i : Nat) : Stmt := PySem.Challenge.pw_clearfloor_k94_whole_the_log_is_the_flee.main.body.getD i (.Pass ⟨0, 0, 0, 0⟩)
abbrev s_write_event : Stmt := top 10
abbrev s_read_number : Stmt := top 11
abbrev s_read_order : Stmt := top 12
abbrev s_read_event : Stmt := top 13
abbrev s_write_log : Stmt := top 14
abbrev s_read_log : Stmt := top 15
abbrev s_distances : Stmt := top 17
abbrev s_distance : Stmt := top 18
abbrev s_Robot_init : Stmt := inClass (top 20) 0
abbrev s_Robot_twin : Stmt := inClass (top 20) 1
abbrev s_Order_init : Stmt := inClass (top 21) 0
abbrev s_Order_twin : Stmt := inClass (top 21) 1
abbrev s_Order_give : Stmt := inClass (top 21) 2
abbrev s_Order_load : Stmt := inClass (top 21) 3
abbrev s_Order_release : Stmt := inClass (top 21) 4
abbrev s_Order_finish : Stmt := inClass (top 21) 5
abbrev s_Fleet_init : Stmt := inClass (top 22) 0
abbrev s_Fleet_twin : Stmt := inClass (top 22) 1
abbrev s_Fleet_closed : Stmt := inClass (top 22) 2
abbrev s_Fleet_taken : Stmt := inClass (top 22) 3
abbrev s_Fleet_running : Stmt := inClass (top 22) 4
abbrev s_Fleet_kept_ways : Stmt := inClass (top 22) 5
abbrev s_Fleet_order_of : Stmt := inClass (top 22) 6
abbrev s_Fleet_aim : Stmt := inClass (top 22) 7
abbrev s_Fleet_is_free : Stmt := inClass (top 22) 8
abbrev s_Fleet_first_open : Stmt := inClass (top 22) 9
abbrev s_links_of : Stmt := top 24
abbrev s_changed_links : Stmt := top 25
abbrev s_follow : Stmt := top 26
abbrev s_new_ways : Stmt := top 27
abbrev s_ahead_table : Stmt := top 29
abbrev s_next_spots : Stmt := top 30
abbrev s_explore : Stmt := top 31
abbrev s_path_to : Stmt := top 32
abbrev s_find_path : Stmt := top 33
abbrev s_search_cut : Stmt := top 34
abbrev s_add_way : Stmt := top 36
abbrev s_most_ways : Stmt := top 37
abbrev s_first_robot : Stmt := top 39
abbrev s_nearer_places : Stmt := top 40
abbrev s_step : Stmt := top 41
abbrev s_step_home : Stmt := top 42
abbrev s_handle : Stmt := top 43
abbrev s_plain_act : Stmt := top 44
abbrev s_first_goes : Stmt := top 45
abbrev s_careful_act : Stmt := top 46
abbrev s_idle_act : Stmt := top 47
abbrev s_act_of : Stmt := top 48
abbrev s_nearest_free : Stmt := top 50
abbrev s_next_order : Stmt := top 51
abbrev s_assign : Stmt := top 52
abbrev s_robot_on : Stmt := top 54
abbrev s_hindrance : Stmt := top 55
abbrev s_hindrances : Stmt := top 56
abbrev s_waits : Stmt := top 57
abbrev s_why_no_order : Stmt := top 60
abbrev s_why_not : Stmt := top 61
abbrev s_broken_down : Stmt := top 62
abbrev s_happen : Stmt := top 63
abbrev s_run : Stmt := top 64
abbrev s_Floor_init : Stmt := inClass (top 67) 0
abbrev s_Floor_around : Stmt := inClass (top 67) 1
abbrev s_station_of : Stmt := top 75
abbrev s_is_tile : Stmt := top 76
abbrev s_is_cell : Stmt := top 77
abbrev s_is_door : Stmt := top 78
abbrev s_row_problem : Stmt := top 79
abbrev s_tile_problem : Stmt := top 80
abbrev s_whole_problem : Stmt := top 81
abbrev s_scan : Stmt := top 82
abbrev s_read_rows : Stmt := top 83
abbrev s_cells_of : Stmt := top 84
abbrev s_neighbors : Stmt := top 85
abbrev s_read_floor : Stmt := top 86
abbrev s_law_cell : Stmt := top 88
abbrev s_law_row : Stmt := top 89
abbrev s_law_box : Stmt := top 90
abbrev s_law_draw : Stmt := top 91
abbrev s_law_values : Stmt := top 92
abbrev s_law_tile : Stmt := top 93
abbrev s_law_renamed : Stmt := top 94
abbrev s_law_mended : Stmt := top 95
abbrev s_law_rows : Stmt := top 96
abbrev s_law_beside : Stmt := top 97
abbrev s_law_world : Stmt := top 98
abbrev s_law_event : Stmt := top 99
abbrev s_law_moved : Stmt := top 100
abbrev s_law_then : Stmt := top 101
abbrev s_law_history : Stmt := top 102
abbrev s_law_told : Stmt := top 103
abbrev s_law_start : Stmt := top 104
abbrev s_law : Stmt := top 105
def d_write_event : He.DefD := ⟨("write_event", none), "write_event", "write_event", defArgs s_write_event, defBody s_write_event, defScope s_write_event, [], []⟩
def d_read_number : He.DefD := ⟨("read_number", none), "read_number", "read_number", defArgs s_read_number, defBody s_read_number, defScope s_read_number, [], []⟩
def d_read_order : He.DefD := ⟨("read_order", none), "read_order", "read_order", defArgs s_read_order, defBody s_read_order, defScope s_read_order, [], []⟩
def d_read_event : He.DefD := ⟨("read_event", none), "read_event", "read_event", defArgs s_read_event, defBody s_read_event, defScope s_read_event, [], []⟩
def d_write_log : He.DefD := ⟨("write_log", none), "write_log", "write_log", defArgs s_write_log, defBody s_write_log, defScope s_write_log, [], []⟩
def d_read_log : He.DefD := ⟨("read_log", none), "read_log", "read_log", defArgs s_read_log, defBody s_read_log, defScope s_read_log, [], []⟩
def d_distances : He.DefD := ⟨("distances", none), "distances", "distances", defArgs s_distances, defBody s_distances, defScope s_distances, [], []⟩
def d_distance : He.DefD := ⟨("distance", none), "distance", "distance", defArgs s_distance, defBody s_distance, defScope s_distance, [], []⟩
def d_Robot_init : He.DefD := ⟨("Robot", some "__init__"), "__init__", "Robot.__init__", defArgs s_Robot_init, defBody s_Robot_init, defScope s_Robot_init, [.bl false, .adr (He.dflAt ("Robot", some "__init__") 1)], []⟩
def d_Robot_twin : He.DefD := ⟨("Robot", some "twin"), "twin", "Robot.twin", defArgs s_Robot_twin, defBody s_Robot_twin, defScope s_Robot_twin, [], []⟩
def d_Order_init : He.DefD := ⟨("Order", some "__init__"), "__init__", "Order.__init__", defArgs s_Order_init, defBody s_Order_init, defScope s_Order_init, [], []⟩
def d_Order_twin : He.DefD := ⟨("Order", some "twin"), "twin", "Order.twin", defArgs s_Order_twin, defBody s_Order_twin, defScope s_Order_twin, [], []⟩
def d_Order_give : He.DefD := ⟨("Order", some "give"), "give", "Order.give", defArgs s_Order_give, defBody s_Order_give, defScope s_Order_give, [], []⟩
def d_Order_load : He.DefD := ⟨("Order", some "load"), "load", "Order.load", defArgs s_Order_load, defBody s_Order_load, defScope s_Order_load, [], []⟩
def d_Order_release : He.DefD := ⟨("Order", some "release"), "release", "Order.release", defArgs s_Order_release, defBody s_Order_release, defScope s_Order_release, [], []⟩
def d_Order_finish : He.DefD := ⟨("Order", some "finish"), "finish", "Order.finish", defArgs s_Order_finish, defBody s_Order_finish, defScope s_Order_finish, [], []⟩
def d_Fleet_init : He.DefD := ⟨("Fleet", some "__init__"), "__init__", "Fleet.__init__", defArgs s_Fleet_init, defBody s_Fleet_init, defScope s_Fleet_init, [], [("patience", .int 4)]⟩
def d_Fleet_twin : He.DefD := ⟨("Fleet", some "twin"), "twin", "Fleet.twin", defArgs s_Fleet_twin, defBody s_Fleet_twin, defScope s_Fleet_twin, [], []⟩
def d_Fleet_closed : He.DefD := ⟨("Fleet", some "closed"), "closed", "Fleet.closed", defArgs s_Fleet_closed, defBody s_Fleet_closed, defScope s_Fleet_closed, [], []⟩
def d_Fleet_taken : He.DefD := ⟨("Fleet", some "taken"), "taken", "Fleet.taken", defArgs s_Fleet_taken, defBody s_Fleet_taken, defScope s_Fleet_taken, [], []⟩
def d_Fleet_running : He.DefD := ⟨("Fleet", some "running"), "running", "Fleet.running", defArgs s_Fleet_running, defBody s_Fleet_running, defScope s_Fleet_running, [], []⟩
def d_Fleet_kept_ways : He.DefD := ⟨("Fleet", some "kept_ways"), "kept_ways", "Fleet.kept_ways", defArgs s_Fleet_kept_ways, defBody s_Fleet_kept_ways, defScope s_Fleet_kept_ways, [], []⟩
def d_Fleet_order_of : He.DefD := ⟨("Fleet", some "order_of"), "order_of", "Fleet.order_of", defArgs s_Fleet_order_of, defBody s_Fleet_order_of, defScope s_Fleet_order_of, [], []⟩
def d_Fleet_aim : He.DefD := ⟨("Fleet", some "aim"), "aim", "Fleet.aim", defArgs s_Fleet_aim, defBody s_Fleet_aim, defScope s_Fleet_aim, [], []⟩
def d_Fleet_is_free : He.DefD := ⟨("Fleet", some "is_free"), "is_free", "Fleet.is_free", defArgs s_Fleet_is_free, defBody s_Fleet_is_free, defScope s_Fleet_is_free, [], []⟩
def d_Fleet_first_open : He.DefD := ⟨("Fleet", some "first_open"), "first_open", "Fleet.first_open", defArgs s_Fleet_first_open, defBody s_Fleet_first_open, defScope s_Fleet_first_open, [], []⟩
def d_links_of : He.DefD := ⟨("links_of", none), "links_of", "links_of", defArgs s_links_of, defBody s_links_of, defScope s_links_of, [], []⟩
def d_changed_links : He.DefD := ⟨("changed_links", none), "changed_links", "changed_links", defArgs s_changed_links, defBody s_changed_links, defScope s_changed_links, [], []⟩
def d_follow : He.DefD := ⟨("follow", none), "follow", "follow", defArgs s_follow, defBody s_follow, defScope s_follow, [], []⟩
def d_new_ways : He.DefD := ⟨("new_ways", none), "new_ways", "new_ways", defArgs s_new_ways, defBody s_new_ways, defScope s_new_ways, [], []⟩
def d_ahead_table : He.DefD := ⟨("ahead_table", none), "ahead_table", "ahead_table", defArgs s_ahead_table, defBody s_ahead_table, defScope s_ahead_table, [], []⟩
def d_next_spots : He.DefD := ⟨("next_spots", none), "next_spots", "next_spots", defArgs s_next_spots, defBody s_next_spots, defScope s_next_spots, [], []⟩
def d_explore : He.DefD := ⟨("explore", none), "explore", "explore", defArgs s_explore, defBody s_explore, defScope s_explore, [], []⟩
def d_path_to : He.DefD := ⟨("path_to", none), "path_to", "path_to", defArgs s_path_to, defBody s_path_to, defScope s_path_to, [], []⟩
def d_find_path : He.DefD := ⟨("find_path", none), "find_path", "find_path", defArgs s_find_path, defBody s_find_path, defScope s_find_path, [], []⟩
def d_search_cut : He.DefD := ⟨("search_cut", none), "search_cut", "search_cut", defArgs s_search_cut, defBody s_search_cut, defScope s_search_cut, [], []⟩
def d_add_way : He.DefD := ⟨("add_way", none), "add_way", "add_way", defArgs s_add_way, defBody s_add_way, defScope s_add_way, [], []⟩
def d_most_ways : He.DefD := ⟨("most_ways", none), "most_ways", "most_ways", defArgs s_most_ways, defBody s_most_ways, defScope s_most_ways, [], []⟩
def d_first_robot : He.DefD := ⟨("first_robot", none), "first_robot", "first_robot", defArgs s_first_robot, defBody s_first_robot, defScope s_first_robot, [], []⟩
def d_nearer_places : He.DefD := ⟨("nearer_places", none), "nearer_places", "nearer_places", defArgs s_nearer_places, defBody s_nearer_places, defScope s_nearer_places, [], []⟩
def d_step : He.DefD := ⟨("step", none), "step", "step", defArgs s_step, defBody s_step, defScope s_step, [], []⟩
def d_step_home : He.DefD := ⟨("step_home", none), "step_home", "step_home", defArgs s_step_home, defBody s_step_home, defScope s_step_home, [], []⟩
def d_handle : He.DefD := ⟨("handle", none), "handle", "handle", defArgs s_handle, defBody s_handle, defScope s_handle, [], []⟩
def d_plain_act : He.DefD := ⟨("plain_act", none), "plain_act", "plain_act", defArgs s_plain_act, defBody s_plain_act, defScope s_plain_act, [], []⟩
def d_first_goes : He.DefD := ⟨("first_goes", none), "first_goes", "first_goes", defArgs s_first_goes, defBody s_first_goes, defScope s_first_goes, [], []⟩
def d_careful_act : He.DefD := ⟨("careful_act", none), "careful_act", "careful_act", defArgs s_careful_act, defBody s_careful_act, defScope s_careful_act, [], []⟩
def d_idle_act : He.DefD := ⟨("idle_act", none), "idle_act", "idle_act", defArgs s_idle_act, defBody s_idle_act, defScope s_idle_act, [], []⟩
def d_act_of : He.DefD := ⟨("act_of", none), "act_of", "act_of", defArgs s_act_of, defBody s_act_of, defScope s_act_of, [], []⟩
def d_nearest_free : He.DefD := ⟨("nearest_free", none), "nearest_free", "nearest_free", defArgs s_nearest_free, defBody s_nearest_free, defScope s_nearest_free, [], []⟩
def d_next_order : He.DefD := ⟨("next_order", none), "next_order", "next_order", defArgs s_next_order, defBody s_next_order, defScope s_next_order, [], []⟩
def d_assign : He.DefD := ⟨("assign", none), "assign", "assign", defArgs s_assign, defBody s_assign, defScope s_assign, [], []⟩
def d_robot_on : He.DefD := ⟨("robot_on", none), "robot_on", "robot_on", defArgs s_robot_on, defBody s_robot_on, defScope s_robot_on, [], []⟩
def d_hindrance : He.DefD := ⟨("hindrance", none), "hindrance", "hindrance", defArgs s_hindrance, defBody s_hindrance, defScope s_hindrance, [], []⟩
def d_hindrances : He.DefD := ⟨("hindrances", none), "hindrances", "hindrances", defArgs s_hindrances, defBody s_hindrances, defScope s_hindrances, [], []⟩
def d_waits : He.DefD := ⟨("waits", none), "waits", "waits", defArgs s_waits, defBody s_waits, defScope s_waits, [], []⟩
def d_why_no_order : He.DefD := ⟨("why_no_order", none), "why_no_order", "why_no_order", defArgs s_why_no_order, defBody s_why_no_order, defScope s_why_no_order, [], []⟩
def d_why_not : He.DefD := ⟨("why_not", none), "why_not", "why_not", defArgs s_why_not, defBody s_why_not, defScope s_why_not, [], []⟩
def d_broken_down : He.DefD := ⟨("broken_down", none), "broken_down", "broken_down", defArgs s_broken_down, defBody s_broken_down, defScope s_broken_down, [], []⟩
def d_happen : He.DefD := ⟨("happen", none), "happen", "happen", defArgs s_happen, defBody s_happen, defScope s_happen, [], []⟩
def d_run : He.DefD := ⟨("run", none), "run", "run", defArgs s_run, defBody s_run, defScope s_run, [], []⟩
def d_Floor_init : He.DefD := ⟨("Floor", some "__init__"), "__init__", "Floor.__init__", defArgs s_Floor_init, defBody s_Floor_init, defScope s_Floor_init, [], []⟩
def d_Floor_around : He.DefD := ⟨("Floor", some "around"), "around", "Floor.around", defArgs s_Floor_around, defBody s_Floor_around, defScope s_Floor_around, [], []⟩
def d_station_of : He.DefD := ⟨("station_of", none), "station_of", "station_of", defArgs s_station_of, defBody s_station_of, defScope s_station_of, [], []⟩
def d_is_tile : He.DefD := ⟨("is_tile", none), "is_tile", "is_tile", defArgs s_is_tile, defBody s_is_tile, defScope s_is_tile, [], []⟩
def d_is_cell : He.DefD := ⟨("is_cell", none), "is_cell", "is_cell", defArgs s_is_cell, defBody s_is_cell, defScope s_is_cell, [], []⟩
def d_is_door : He.DefD := ⟨("is_door", none), "is_door", "is_door", defArgs s_is_door, defBody s_is_door, defScope s_is_door, [], []⟩
def d_row_problem : He.DefD := ⟨("row_problem", none), "row_problem", "row_problem", defArgs s_row_problem, defBody s_row_problem, defScope s_row_problem, [], []⟩
def d_tile_problem : He.DefD := ⟨("tile_problem", none), "tile_problem", "tile_problem", defArgs s_tile_problem, defBody s_tile_problem, defScope s_tile_problem, [], []⟩
def d_whole_problem : He.DefD := ⟨("whole_problem", none), "whole_problem", "whole_problem", defArgs s_whole_problem, defBody s_whole_problem, defScope s_whole_problem, [], []⟩
def d_scan : He.DefD := ⟨("scan", none), "scan", "scan", defArgs s_scan, defBody s_scan, defScope s_scan, [], []⟩
def d_read_rows : He.DefD := ⟨("read_rows", none), "read_rows", "read_rows", defArgs s_read_rows, defBody s_read_rows, defScope s_read_rows, [], []⟩
def d_cells_of : He.DefD := ⟨("cells_of", none), "cells_of", "cells_of", defArgs s_cells_of, defBody s_cells_of, defScope s_cells_of, [], []⟩
def d_neighbors : He.DefD := ⟨("neighbors", none), "neighbors", "neighbors", defArgs s_neighbors, defBody s_neighbors, defScope s_neighbors, [], []⟩
def d_read_floor : He.DefD := ⟨("read_floor", none), "read_floor", "read_floor", defArgs s_read_floor, defBody s_read_floor, defScope s_read_floor, [], []⟩
def d_law_cell : He.DefD := ⟨("_law_cell", none), "_law_cell", "_law_cell", defArgs s_law_cell, defBody s_law_cell, defScope s_law_cell, [], []⟩
def d_law_row : He.DefD := ⟨("_law_row", none), "_law_row", "_law_row", defArgs s_law_row, defBody s_law_row, defScope s_law_row, [], []⟩
def d_law_box : He.DefD := ⟨("_law_box", none), "_law_box", "_law_box", defArgs s_law_box, defBody s_law_box, defScope s_law_box, [], []⟩
def d_law_draw : He.DefD := ⟨("_law_draw", none), "_law_draw", "_law_draw", defArgs s_law_draw, defBody s_law_draw, defScope s_law_draw, [], []⟩
def d_law_values : He.DefD := ⟨("_law_values", none), "_law_values", "_law_values", defArgs s_law_values, defBody s_law_values, defScope s_law_values, [], []⟩
def d_law_tile : He.DefD := ⟨("_law_tile", none), "_law_tile", "_law_tile", defArgs s_law_tile, defBody s_law_tile, defScope s_law_tile, [], []⟩
def d_law_renamed : He.DefD := ⟨("_law_renamed", none), "_law_renamed", "_law_renamed", defArgs s_law_renamed, defBody s_law_renamed, defScope s_law_renamed, [], []⟩
def d_law_mended : He.DefD := ⟨("_law_mended", none), "_law_mended", "_law_mended", defArgs s_law_mended, defBody s_law_mended, defScope s_law_mended, [], []⟩
def d_law_rows : He.DefD := ⟨("_law_rows", none), "_law_rows", "_law_rows", defArgs s_law_rows, defBody s_law_rows, defScope s_law_rows, [], []⟩
def d_law_beside : He.DefD := ⟨("_law_beside", none), "_law_beside", "_law_beside", defArgs s_law_beside, defBody s_law_beside, defScope s_law_beside, [], []⟩
def d_law_world : He.DefD := ⟨("_law_world", none), "_law_world", "_law_world", defArgs s_law_world, defBody s_law_world, defScope s_law_world, [], []⟩
def d_law_event : He.DefD := ⟨("_law_event", none), "_law_event", "_law_event", defArgs s_law_event, defBody s_law_event, defScope s_law_event, [], []⟩
def d_law_moved : He.DefD := ⟨("_law_moved", none), "_law_moved", "_law_moved", defArgs s_law_moved, defBody s_law_moved, defScope s_law_moved, [], []⟩
def d_law_then : He.DefD := ⟨("_law_then", none), "_law_then", "_law_then", defArgs s_law_then, defBody s_law_then, defScope s_law_then, [], []⟩
def d_law_history : He.DefD := ⟨("_law_history", none), "_law_history", "_law_history", defArgs s_law_history, defBody s_law_history, defScope s_law_history, [], []⟩
def d_law_told : He.DefD := ⟨("_law_told", none), "_law_told", "_law_told", defArgs s_law_told, defBody s_law_told, defScope s_law_told, [], []⟩
def d_law_start : He.DefD := ⟨("_law_start", none), "_law_start", "_law_start", defArgs s_law_start, defBody s_law_start, defScope s_law_start, [], []⟩
def d_law : He.DefD := ⟨("law", none), "law", "law", defArgs s_law, defBody s_law, defScope s_law, [], []⟩
def fn0 : List He.DefD := [d_write_event, d_read_number, d_read_order, d_read_event, d_write_log, d_read_log, d_distances, d_distance, d_Robot_init, d_Robot_twin, d_Order_init, d_Order_twin, d_Order_give, d_Order_load, d_Order_release, d_Order_finish, d_Fleet_init, d_Fleet_twin, d_Fleet_closed, d_Fleet_taken, d_Fleet_running, d_Fleet_kept_ways, d_Fleet_order_of, d_Fleet_aim, d_Fleet_is_free, d_Fleet_first_open, d_links_of, d_changed_links, d_follow, d_new_ways]
def fn1 : List He.DefD := [d_ahead_table, d_next_spots, d_explore, d_path_to, d_find_path, d_search_cut, d_add_way, d_most_ways, d_first_robot, d_nearer_places, d_step, d_step_home, d_handle, d_plain_act, d_first_goes, d_careful_act, d_idle_act, d_act_of, d_nearest_free, d_next_order, d_assign, d_robot_on, d_hindrance, d_hindrances, d_waits, d_why_no_order, d_why_not, d_broken_down, d_happen, d_run]
def fn2 : List He.DefD := [d_Floor_init, d_Floor_around, d_station_of, d_is_tile, d_is_cell, d_is_door, d_row_problem, d_tile_problem, d_whole_problem, d_scan, d_read_rows, d_cells_of, d_neighbors, d_read_floor, d_law_cell, d_law_row, d_law_box, d_law_draw, d_law_values, d_law_tile, d_law_renamed, d_law_mended, d_law_rows, d_law_beside, d_law_world, d_law_event, d_law_moved, d_law_then, d_law_history, d_law_told]
def fn3 : List He.DefD := [d_law_start, d_law]
def fn : List He.DefD := fn0 ++ fn1 ++ fn2 ++ fn3
def fa0 : List He.Fa := [.glo "ClearfloorError", .glo "MapError", .glo "LineError", .glo "RefusedError", .glo "Robot", .glo "Order", .glo "Fleet", .glo "Floor", .glo "write_event", .glo "read_number", .glo "read_order", .glo "read_event", .glo "write_log", .glo "read_log", .glo "distances", .glo "distance", .glo "links_of", .glo "changed_links", .glo "follow", .glo "new_ways", .glo "ahead_table", .glo "next_spots", .glo "explore", .glo "path_to", .glo "find_path", .glo "search_cut", .glo "add_way", .glo "most_ways", .glo "first_robot", .glo "nearer_places"]
def fa1 : List He.Fa := [.glo "step", .glo "step_home", .glo "handle", .glo "plain_act", .glo "first_goes", .glo "careful_act", .glo "idle_act", .glo "act_of", .glo "nearest_free", .glo "next_order", .glo "assign", .glo "robot_on", .glo "hindrance", .glo "hindrances", .glo "waits", .glo "why_no_order", .glo "why_not", .glo "broken_down", .glo "happen", .glo "run", .glo "station_of", .glo "is_tile", .glo "is_cell", .glo "is_door", .glo "row_problem", .glo "tile_problem", .glo "whole_problem", .glo "scan", .glo "read_rows", .glo "cells_of"]
def fa2 : List He.Fa := [.glo "neighbors", .glo "read_floor", .glo "_law_cell", .glo "_law_row", .glo "_law_box", .glo "_law_draw", .glo "_law_values", .glo "_law_tile", .glo "_law_renamed", .glo "_law_mended", .glo "_law_rows", .glo "_law_beside", .glo "_law_world", .glo "_law_event", .glo "_law_moved", .glo "_law_then", .glo "_law_history", .glo "_law_told", .glo "_law_start", .glo "law", .free "any", .free "enumerate", .free "int", .free "len", .free "list", .free "max", .free "min", .free "range", .free "reversed", .free "set"]
def fa3 : List He.Fa := [.free "sorted", .free "super", .free "tuple", .free "zip", .str "LETTERS_log" "ABCDEFGHIJKLMNOPQRSTUVWXYZ", .str "FIGURES" "0123456789", .glo "WORDS", .glo "REASONS", .str "LETTERS_floors" "ABCDEFGH", .int "ROW_LIMIT" 16, .int "COLUMN_LIMIT" 16, .int "CELL_LIMIT" 120, .int "STATION_LIMIT" 8, .str "CAPITALS" "ABCDEFGHIJKLMNOPQRSTUVWXYZ", .str "SMALL_LETTERS" "abcdefghijklmnopqrstuvwxyz", .cls "Robot", .mkr "Robot", .noat "Robot" "place", .noat "Robot" "broken", .noat "Robot" "way", .cls "Order", .mkr "Order", .noat "Order" "start", .noat "Order" "goal", .noat "Order" "done", .noat "Order" "robot", .noat "Order" "loaded", .cls "Fleet", .mkr "Fleet", .noat "Fleet" "floor"]
def fa4 : List He.Fa := [.noat "Fleet" "patience", .noat "Fleet" "robots", .noat "Fleet" "orders", .cls "Floor", .mkr "Floor", .noat "Floor" "near", .noat "Floor" "size", .noat "Floor" "depot", .noat "Floor" "doors", .noat "Floor" "stations", .noat "Floor" "places", .meth "Robot" "twin", .meth "Order" "twin", .meth "Order" "give", .meth "Order" "load", .meth "Order" "release", .meth "Order" "finish", .meth "Fleet" "twin", .meth "Fleet" "closed", .meth "Fleet" "taken", .meth "Fleet" "running", .meth "Fleet" "kept_ways", .meth "Fleet" "order_of", .meth "Fleet" "aim", .meth "Fleet" "is_free", .meth "Fleet" "first_open", .meth "Floor" "around"]
def fa : List He.Fa := fa0 ++ fa1 ++ fa2 ++ fa3 ++ fa4
def ts : List He.Tab := [((fun K => He.ga K "REASONS"), ["broken", "idle", "far"])]
def tupE (K : PySem.W.Frag) (a : Addr) : Bool := match K.lookup a with
  | some ⟨.type c, _, .seq its _, _⟩ => decide (c = "tuple") && decide (its.size = 0)
  | _ => false
def noneB (K : PySem.W.Frag) (a : Addr) (zs : List PySem.Str) : Bool := zs.all fun z => match PySem.W.nsIn K a z with
  | some none => true
  | _ => false
def exA (K : PySem.W.Frag) : Bool := tupE K (He.dflAt ("Robot", some "__init__") 1 K) && He.tupB K "WORDS" [.str "go", .str "fail", .str "tow"] && (He.valsB K (He.ga K "REASONS") [("broken", .str "robot is broken"), ("idle", .str "robot has nothing to do"), ("far", .str "robot cannot come there")] && noneB K (He.ga K "REASONS") ["home", "behind", "hindered"])
abbrev s_RefusedError_init : Stmt := inClass (top 5) 0
def cRef (K : PySem.W.Frag) : Addr := He.ga K "RefusedError"
def fRef (K : PySem.W.Frag) : Addr := He.ma K (cRef K) "__init__"
def clsRB (K : PySem.W.Frag) (C : Addr) : Bool := match K.lookup C with
  | some ⟨.type t, _, .cls cd, sl⟩ => (match cd.mro, sl.toList with
    | .ref D :: bm, [_, _, _, _, some (.builtin n), _] => decide (t = "type") && (decide (D = C) && (decide (n = "ValueError.__new__") && (!cd.hasDel && (cd.hasDict && (PySem.HandSPX.refsVE bm && He.eqO (PySem.W.alongIn K "__init__" bm) (some (some (.builtin "ValueError.__init__"))))))))
    | _, _ => false)
  | _ => false
def cellRB (K : PySem.W.Frag) (C : Addr) : List (Str × Addr) → Bool
  | [(_, cc)] => (match K.lookup cc with
    | some ⟨_, _, .cell (some (.ref D)), _⟩ => decide (D = C)
    | _ => false)
  | _ => false
def fileRB (K : PySem.W.Frag) : Value → Bool
  | .ref a => (match K.lookup a with
    | some ⟨_, _, .fields vs, _⟩ => (match vs.toList with
      | _ :: _ :: .str z _ :: _ => decide ((PySem.Challenge.pw_clearfloor_k94_whole_the_log_is_the_flee.main.file : Str) = z)
      | _ => false)
    | _ => false)
  | _ => false
def fnRB (K : PySem.W.Frag) (C f : Addr) : Bool := match K.lookup f with
  | some ⟨_, _, .func fd, _⟩ => PySem.W.codeIn K fd.code "RefusedError.__init__" && (fileRB K fd.code && (cellRB K C fd.closure && (He.dflB K fd.defaults [V.int 0] && He.kwdB K fd.kwdefaults [])))
  | _ => false
def exB (K : PySem.W.Frag) : Bool := clsRB K (cRef K) && (fnRB K (cRef K) (fRef K) && (He.eqO (PySem.W.findIn K (.ref (cRef K)) "__setattr__") (some (some (.builtin "object.__setattr__"))) &&
  (He.eqO (PySem.W.findIn K (.ref (cRef K)) "__init__") (some (some (.ref (fRef K)))) && (He.eqO (PySem.W.findIn K (.ref (cRef K)) "reason") (some none) && (He.eqO (PySem.W.findIn K (.ref (cRef K)) "line") (some none) &&
  (He.eqO (PySem.W.nsIn K cStatics "thirdparty.any") (some none) && (decide (PySem.W.subIn K (.ref (cRef K)) (.type "BaseException") = some true) && (decide (PySem.W.subIn K (.ref (cRef K)) (.type "ValueError") = some true) &&
  (decide (PySem.W.typeIn K (.ref (cRef K)) = some (.type "type")) && (decide (PySem.W.typeIn K (.ref (fRef K)) = some (.type "function")) && (PySem.W.keepIn K (.ref (cRef K)) && decide (PySem.W.exmOne K (.ref (cRef K)) (.ref (cRef K)) = some true))))))))))))
def ex (K : PySem.W.Frag) : Bool := exA K && exB K
abbrev FnR : Type := Option (Str × Str × Arguments × FuncBody × Scope × Addr × List Str × Addr)
def fnR (K : PySem.W.Frag) : FnR := match K.lookup (fRef K) with
  | some ⟨_, _, .func fd, _⟩ => some (fd.name, fd.qualname, fd.params, fd.body, fd.scope, fd.globals, fd.closure.map (·.1), fd.builtins)
  | _ => none
def vaR : FnR := some ("__init__", "RefusedError.__init__", defArgs s_RefusedError_init, .stmts (defBody s_RefusedError_init), defScope s_RefusedError_init, mainGlobals, ["__class__"], builtinsNs)
def lo0 : List PySem.Str := ["ClearfloorError", "MapError", "LineError", "RefusedError", "Robot", "Order", "Fleet", "Floor", "_wall", "write_event", "read_number", "read_order", "read_event", "write_log", "read_log", "distances", "distance", "links_of", "changed_links", "follow", "new_ways", "ahead_table", "next_spots", "explore", "path_to", "find_path", "search_cut", "add_way", "most_ways", "first_robot"]
def lo1 : List PySem.Str := ["nearer_places", "step", "step_home", "handle", "plain_act", "first_goes", "careful_act", "idle_act", "act_of", "nearest_free", "next_order", "assign", "robot_on", "hindrance", "hindrances", "waits", "why_no_order", "why_not", "broken_down", "happen", "run", "station_of", "is_tile", "is_cell", "is_door", "row_problem", "tile_problem", "whole_problem", "scan", "read_rows"]
def lo2 : List PySem.Str := ["cells_of", "neighbors", "read_floor", "_law_cell", "_law_row", "_law_box", "_law_draw", "_law_values", "_law_tile", "_law_renamed", "_law_mended", "_law_rows", "_law_beside", "_law_world", "_law_event", "_law_moved", "_law_then", "_law_history", "_law_told", "_law_start", "LETTERS_log", "FIGURES", "WORDS", "REASONS", "LETTERS_floors", "ROW_LIMIT", "COLUMN_LIMIT", "CELL_LIMIT", "STATION_LIMIT", "CAPITALS"]
def lo3 : List PySem.Str := ["SMALL_LETTERS"]
def lo : List PySem.Str := lo0 ++ lo1 ++ lo2 ++ lo3
abbrev R : PySem.W.OpenRow := PySem.W.OpenLaw.row PySem.Challenge.rw_clearfloor_k94_whole_the_log_is_the_flee
/-- the written part: every object behind the boot's first ones -/
def asY (n : Nat) : List Addr := mainGlobals :: List.range n
def pW : He.Defn := ("whole_problem", none)
def tabY (g : Addr → Option Obj) (K : PySem.W.Frag) : Bool := PySem.W.codeHdIn K (He.cT K pW).1 (He.cT K pW).2 && (match g (He.cT K pW).2 with
  | some o => He.emptyTab o
  | none => false)
structure TabS (h : Heap) (K : PySem.W.Frag) : Prop where
  hd : PySem.W.codeHdIn K (He.cT K pW).1 (He.cT K pW).2 = true
  out : K.lookup (He.cT K pW).2 = none
  empty : h.get? (He.cT K pW).2 = some { cls := .none, data := .fields #[] }
theorem tabS_of {h : Heap} {as : List Addr} (e : tabY h.get? (He.frT h.get? as) = true) : TabS h (He.frT h.get? as) := by
  obtain ⟨h1, h2⟩ := He.ba e
  cases q : h.get? (He.cT (He.frT h.get? as) pW).2 with
  | none =>
    rw [q] at h2
    cases h2
  | some o =>
    rw [q] at h2
    exact ⟨h1, He.frT_none q h2, by rw [q, He.emptyTab_eq h2]⟩
def obsY (g : Addr → Option Obj) (n : Nat) : He.AlX × FnR := ((He.obsT fa fn ts (He.frT g (asY n)), ex (He.frT g (asY n)) && tabY g (He.frT g (asY n))), fnR (He.frT g (asY n)))
def hk : PySem.W.Hook where
  α := He.AlX × FnR
  obs := fun s => obsY s.heap.get? s.heap.objs.size
  val := fun w => ((He.valT fn ts w, true), vaR)
  says := fun w h => ∃ K : PySem.W.Frag, K.In h ∧ He.SaysT fa fn ts w K ∧ ex K = true ∧ fnR K = vaR ∧ TabS h K
  of := fun w s e => ⟨_, He.frT_in, congrArg (fun z : He.AlX × FnR => z.1.1) e, (He.ba (congrArg (fun z : He.AlX × FnR => z.1.2) e)).1, congrArg (fun z : He.AlX × FnR => z.2) e, tabS_of (He.ba (congrArg (fun z : He.AlX × FnR => z.1.2) e)).2⟩
  keeps := fun _ _ _ ⟨K, hK, c1, c2, c3, c4⟩ k => ⟨K, PySem.W.Frag.In.keeps hK k, c1, c2, c3, ⟨c4.hd, c4.out, k _ _ c4.empty⟩⟩
def ob (s : PySem.W.SharedT) : He.AlX × FnR := obsY (HandSHeadRun.getT s) s.n
theorem ob_eq (s : PySem.W.SharedT) : ob s = hk.obs s.abs := by
  have e : HandSHeadRun.getT s = s.abs.heap.get? := funext (HandSHeadRun.getT_eq s)
  have n : s.n = s.abs.heap.objs.size := (PySem.W.absHeap_size s.tree s.n s.life).symm
  show obsY (HandSHeadRun.getT s) s.n = obsY s.abs.heap.get? s.abs.heap.objs.size
  rw [e, n]
end Fl

set_option Elab.async false
set_option linter.all false
set_option maxRecDepth 100000
set_option maxHeartbeats 0
namespace Fl
open PySem PySem.Spec PyProof.Rows L2
theorem run_f (w : World) : HandSHeadRun.RunEq R (PySem.W.view R.prog [105]) hk ob 8000 lo (w.withFollow "special-get-raises" false) := by
  intro os
  kernel_rfl
theorem run_t (w : World) : HandSHeadRun.RunEq R (PySem.W.view R.prog [105]) hk ob 8000 lo (w.withFollow "special-get-raises" true) := by
  intro os
  kernel_rfl
theorem run (w : World) : HandSHeadRun.RunEq R (PySem.W.view R.prog [105]) hk ob 8000 lo w := PySem.W.byRow2 "special-get-raises" run_f run_t w
end Fl

set_option Elab.async false
set_option linter.all false
set_option maxRecDepth 100000
set_option maxHeartbeats 4000000
/-! Typed judgements over the hand layer: two heaps (what is fixed, what stands), values by what they mean. -/
namespace Fl
open PySem PySem.Spec PyProof.Rows L2

/-! ### heaps -/
structure HS where
  G : Hp
  H : Hp
  le : Same G H
structure Grow (S S1 : HS) : Prop where
  h : Same S.H S1.H
  g : Same S.G S1.G
  n : ∀ p, S.H p ≠ none → S.G p = none → S1.G p = none
theorem Grow.refl (S : HS) : Grow S S := ⟨Same.refl _, Same.refl _, fun _ _ h => h⟩
theorem Grow.trans {S S1 S2 : HS} (a : Grow S S1) (b : Grow S1 S2) : Grow S S2 :=
  ⟨a.h.trans b.h, a.g.trans b.g, fun p h1 h2 => b.n p (fun z => by
    cases e : S.H p with
    | none => exact h1 e
    | some o => rw [a.h p o e] at z; cases z) (a.n p h1 h2)⟩
theorem same_new {H : Hp} {p : Addr} {o : HO} (h : H p = none) : Same H (upd H p o) := fun b u e => by
  rw [upd_ne (ne_of_none e h)]
  exact e
theorem same_upd2 {G H : Hp} {p : Addr} {o : HO} (s : Same G H) (h : G p = none) : Same G (upd H p o) := fun b u e => by
  rw [upd_ne (ne_of_none e h)]
  exact s b u e
/-- a new object that is fixed at once -/
def HS.new (S : HS) (p : Addr) (o : HO) (h : S.H p = none) : HS :=
  ⟨upd S.G p o, upd S.H p o, fun b u e => by
    by_cases hb : b = p
    · subst hb
      rw [upd_same] at e ⊢
      exact e
    · rw [upd_ne hb] at e ⊢
      exact S.le b u e⟩
theorem Grow.new (S : HS) (p : Addr) (o : HO) (h : S.H p = none) : Grow S (S.new p o h) :=
  ⟨same_new h, same_new (S.le.free h), fun q h1 h2 => by
    show upd S.G p o q = none
    rw [upd_ne (fun z : q = p => h1 (by rw [z]; exact h))]
    exact h2⟩
theorem HS.new_at {S : HS} {p : Addr} {o : HO} {h : S.H p = none} : (S.new p o h).G p = some o := upd_same
/-- a new object that may change -/
def HS.add (S : HS) (p : Addr) (o : HO) (h : S.G p = none) : HS := ⟨S.G, upd S.H p o, same_upd2 S.le h⟩
theorem Grow.add (S : HS) (p : Addr) (o : HO) (h : S.H p = none) : Grow S (S.add p o (S.le.free h)) :=
  ⟨same_new h, Same.refl _, fun _ _ h2 => h2⟩
/-- from an entry S0 at which p was not there -/
theorem Grow.mut {S0 S : HS} (a : Grow S0 S) {p : Addr} {o : HO} (h0 : S0.H p = none) (h : S.G p = none) : Grow S0 (S.add p o h) :=
  ⟨same_upd2 a.h h0, a.g, a.n⟩
/-- what stood there is fixed -/
def HS.fix (S : HS) (p : Addr) (o : HO) (h : S.G p = none) (e : S.H p = some o) : HS := ⟨upd S.G p o, S.H, fun b u q => by
    by_cases hb : b = p
    · subst hb
      rw [upd_same] at q
      rw [← q]
      exact e
    · rw [upd_ne hb] at q
      exact S.le b u q⟩
theorem Grow.fix {S0 S : HS} (a : Grow S0 S) {p : Addr} {o : HO} (h0 : S0.H p = none) (h : S.G p = none) (e : S.H p = some o) : Grow S0 (S.fix p o h e) :=
  ⟨a.h, same_upd2 a.g (a.g.free h), fun q h1 h2 => by
    show upd S.G p o q = none
    rw [upd_ne (fun z : q = p => h1 (by rw [z]; exact h0))]
    exact a.n q h1 h2⟩

/-! ### what a value means -/
class Rp (α : Type) where
  rep : Hp → V → α → Prop
  mono : ∀ {H H' : Hp} {v : V} {x : α}, Same H H' → rep H v x → rep H' v x
instance : Rp Int := ⟨fun _ v x => v = .int x, fun _ h => h⟩
instance : Rp Bool := ⟨fun _ v x => v = .bl x, fun _ h => h⟩
instance : Rp Str := ⟨fun _ v x => v = .str x, fun _ h => h⟩
instance : Rp Unit := ⟨fun _ v _ => v = .non, fun _ h => h⟩
/-- an address as such -/
structure Adr where
  a : Addr
instance : Rp Adr := ⟨fun _ v x => v = .ref x.a, fun _ h => h⟩
/-- nothing is said -/
structure Som where
instance : Rp Som := ⟨fun _ _ _ => True, fun _ h => h⟩
def repO {α : Type} [Rp α] (H : Hp) (v : V) : Option α → Prop
  | none => v = .non
  | some x => v ≠ .non ∧ Rp.rep H v x
instance {α : Type} [Rp α] : Rp (Option α) := ⟨repO, fun {H H' v x} s h => by
  cases x with
  | none => exact h
  | some x => exact ⟨h.1, Rp.mono s h.2⟩⟩
def reps {α : Type} [Rp α] (H : Hp) (vs : List V) (xs : List α) : Prop := Paired (Rp.rep H) vs xs
theorem reps.mono {α : Type} [Rp α] {H H' : Hp} (s : Same H H') : ∀ {vs : List V} {xs : List α}, reps H vs xs → reps H' vs xs
  | _, _, .nil => .nil
  | _, _, .cons a b => .cons (Rp.mono s a) (reps.mono s b)
theorem reps.len {α : Type} [Rp α] {H : Hp} {vs : List V} {xs : List α} (h : reps H vs xs) : vs.length = xs.length := Paired.length h
theorem reps.app {α : Type} [Rp α] {H : Hp} : ∀ {vs ws : List V} {xs ys : List α}, reps H vs xs → reps H ws ys → reps H (vs ++ ws) (xs ++ ys)
  | _, _, _, _, .nil, b => b
  | _, _, _, _, .cons a t, b => .cons a (reps.app t b)
theorem reps.get {α : Type} [Rp α] {H : Hp} : ∀ {vs : List V} {xs : List α} {i : Nat} {x : α}, reps H vs xs → xs[i]? = some x → ∃ v, vs[i]? = some v ∧ Rp.rep H v x
  | _, _, _, _, .nil, e => by simp at e
  | _, _, 0, _, .cons r _, e => by
    simp at e
    subst e
    exact ⟨_, rfl, r⟩
  | _, _, i + 1, x, .cons _ t, e => by
    obtain ⟨u, h1, h2⟩ := reps.get (i := i) (x := x) t (by simpa using e)
    exact ⟨u, by simpa using h1, h2⟩
theorem reps.got {α : Type} [Rp α] {H : Hp} {vs : List V} {xs : List α} {i : Nat} {v : V} (h : reps H vs xs) (e : vs[i]? = some v) : ∃ x, xs[i]? = some x ∧ Rp.rep H v x := by
  have hi : i < xs.length := by
    rw [← h.len]
    exact (List.getElem?_eq_some_iff.mp e).1
  obtain ⟨u, h1, h2⟩ := h.get (List.getElem?_eq_getElem hi)
  rw [e] at h1
  cases h1
  exact ⟨_, List.getElem?_eq_getElem hi, h2⟩
theorem reps.set {α : Type} [Rp α] {H : Hp} {v : V} {x : α} (r : Rp.rep H v x) : ∀ {vs : List V} {xs : List α} (i : Nat), reps H vs xs → reps H (vs.set i v) (xs.set i x)
  | _, _, _, .nil => .nil
  | _, _, 0, .cons _ t => .cons r t
  | _, _, i + 1, .cons q t => .cons q (reps.set r i t)
theorem reps.take {α : Type} [Rp α] {H : Hp} : ∀ {vs : List V} {xs : List α} (n : Nat), reps H vs xs → reps H (vs.take n) (xs.take n)
  | _, _, 0, _ => .nil
  | _, _, _ + 1, .nil => .nil
  | _, _, n + 1, .cons r t => .cons r (reps.take n t)
theorem reps.drop {α : Type} [Rp α] {H : Hp} : ∀ {vs : List V} {xs : List α} (n : Nat), reps H vs xs → reps H (vs.drop n) (xs.drop n)
  | _, _, 0, r => r
  | _, _, _ + 1, .nil => .nil
  | _, _, n + 1, .cons _ t => reps.drop n t
theorem reps.rev {α : Type} [Rp α] {H : Hp} : ∀ {vs : List V} {xs : List α}, reps H vs xs → reps H vs.reverse xs.reverse
  | _, _, .nil => .nil
  | _, _, .cons r t => by
    rw [List.reverse_cons, List.reverse_cons]
    exact reps.app (reps.rev t) (.cons r .nil)
theorem reps.int {H : Hp} : ∀ {vs : List V} {xs : List Int}, reps H vs xs → vs = xs.map V.int
  | _, _, .nil => rfl
  | _, _, .cons r t => by rw [List.map_cons, ← reps.int t, ← (show _ = V.int _ from r)]
theorem reps.int_of {H : Hp} : ∀ (xs : List Int), reps H (xs.map V.int) xs
  | [] => .nil
  | _ :: r => .cons rfl (reps.int_of r)
theorem reps.str {H : Hp} : ∀ {vs : List V} {xs : List Str}, reps H vs xs → vs = xs.map V.str
  | _, _, .nil => rfl
  | _, _, .cons r t => by rw [List.map_cons, ← reps.str t, ← (show _ = V.str _ from r)]
theorem reps.str_of {H : Hp} : ∀ (xs : List Str), reps H (xs.map V.str) xs
  | [] => .nil
  | _ :: r => .cons rfl (reps.str_of r)
instance {α : Type} [Rp α] : Rp (List α) := ⟨fun H v xs => ∃ a vs, v = .ref a ∧ H a = some (.lst vs) ∧ reps H vs xs,
  fun s ⟨a, vs, e, h, r⟩ => ⟨a, vs, e, s _ _ h, r.mono s⟩⟩
instance {α β : Type} [Rp α] [Rp β] : Rp (α × β) := ⟨fun H v x => ∃ a u w, v = .ref a ∧ H a = some (.tup [u, w]) ∧ Rp.rep H u x.1 ∧ Rp.rep H w x.2,
  fun s ⟨a, u, w, e, h, r1, r2⟩ => ⟨a, u, w, e, s _ _ h, Rp.mono s r1, Rp.mono s r2⟩⟩
/-- a tuple of like things -/
structure Tpl (α : Type) where
  l : List α
instance {α : Type} [Rp α] : Rp (Tpl α) := ⟨fun H v x => ∃ a vs, v = .ref a ∧ H a = some (.tup vs) ∧ reps H vs x.l,
  fun s ⟨a, vs, e, h, r⟩ => ⟨a, vs, e, s _ _ h, r.mono s⟩⟩
theorem rep_int {H : Hp} {v : V} {x : Int} : Rp.rep H v x ↔ v = .int x := Iff.rfl
structure TV where
  {α : Type}
  [inst : Rp α]
  x : α
abbrev Gm := List (Option TV)
structure Slots (G : Hp) (σ : L2.St) (Γ : Gm) : Prop where
  len : σ.length = Γ.length
  at_ : ∀ (i : Nat) (t : TV), Γ[i]? = some (some t) → ∃ v, σ[i]? = some (some v) ∧ t.inst.rep G v t.x
theorem Slots.mono {G G' : Hp} {σ : L2.St} {Γ : Gm} (s : Same G G') (h : Slots G σ Γ) : Slots G' σ Γ :=
  ⟨h.len, fun i t e => let ⟨v, e1, r⟩ := h.at_ i t e; ⟨v, e1, t.inst.mono s r⟩⟩
theorem Slots.set {G : Hp} {σ : L2.St} {Γ : Gm} (h : Slots G σ Γ) (i : Nat) {v : V} {t : TV} (r : t.inst.rep G v t.x) : Slots G (σ.set i (some v)) (Γ.set i (some t)) :=
  ⟨by rw [List.length_set, List.length_set]; exact h.len, fun j u e => by
    by_cases hij : i = j
    · subst hij
      have hl : i < Γ.length := by
        have := (List.getElem?_eq_some_iff.mp e).1
        rw [List.length_set] at this
        exact this
      rw [List.getElem?_set_self hl] at e
      cases e
      exact ⟨v, List.getElem?_set_self (by rw [h.len]; exact hl), r⟩
    · rw [List.getElem?_set_ne hij] at e
      obtain ⟨w, e1, r1⟩ := h.at_ j u e
      exact ⟨w, by rw [List.getElem?_set_ne hij]; exact e1, r1⟩⟩
/-- forgetting -/
theorem Slots.weak {G : Hp} {σ : L2.St} {Γ Γ' : Gm} (h : Slots G σ Γ) (hl : Γ'.length = Γ.length) (w : ∀ (i : Nat) (t : TV), Γ'[i]? = some (some t) → Γ[i]? = some (some t)) : Slots G σ Γ' :=
  ⟨by rw [hl]; exact h.len, fun i t e => h.at_ i t (w i t e)⟩
theorem Slots.nil {G : Hp} : Slots G [] [] := ⟨rfl, fun i t e => by simp at e⟩
theorem Slots.cons {G : Hp} {σ : L2.St} {Γ : Gm} {v : V} {t : TV} (r : t.inst.rep G v t.x) (h : Slots G σ Γ) : Slots G (some v :: σ) (some t :: Γ) :=
  ⟨by rw [List.length_cons, List.length_cons, h.len], fun i u e => by
    cases i with
    | zero =>
      cases e
      exact ⟨v, rfl, r⟩
    | succ i =>
      rw [List.getElem?_cons_succ] at e ⊢
      exact h.at_ i u e⟩
theorem Slots.skip {G : Hp} {σ : L2.St} {Γ : Gm} {v : Option V} (h : Slots G σ Γ) : Slots G (v :: σ) (Option.none :: Γ) :=
  ⟨by rw [List.length_cons, List.length_cons, h.len], fun i u e => by
    cases i with
    | zero => cases e
    | succ i =>
      rw [List.getElem?_cons_succ] at e ⊢
      exact h.at_ i u e⟩
theorem Slots.nones {G : Hp} : ∀ n : Nat, Slots G (List.replicate n Option.none) (List.replicate n Option.none)
  | 0 => .nil
  | n + 1 => (Slots.nones n).skip
/-- an argument list -/
class Args (α : Type) where
  reps : Hp → List V → α → Prop
  mono : ∀ {H H' : Hp} {vs : List V} {x : α}, Same H H' → reps H vs x → reps H' vs x
  gm : α → Nat → Gm
  num : Nat
  len : ∀ {H : Hp} {vs : List V} {x : α}, reps H vs x → vs.length = num
  sl : ∀ {H : Hp} {vs : List V} {x : α} {n : Nat}, reps H vs x → Slots H (vs.map some ++ List.replicate n none) (gm x n)
instance : Args Unit := ⟨fun _ vs _ => vs = [], fun _ h => h, fun _ n => List.replicate n none, 0, fun h => by rw [h]; rfl, fun {H vs x n} h => by rw [h]; exact Slots.nones n⟩
instance {α β : Type} [Rp α] [Args β] : Args (α × β) := ⟨fun H vs x => ∃ v r, vs = v :: r ∧ Rp.rep H v x.1 ∧ Args.reps H r x.2,
  fun s ⟨v, r, e, h1, h2⟩ => ⟨v, r, e, Rp.mono s h1, Args.mono s h2⟩, fun x n => some ⟨x.1⟩ :: Args.gm x.2 n, Args.num β + 1, fun ⟨v, r, e, _, h⟩ => by rw [e, List.length_cons, Args.len h],
  fun ⟨v, r, e, h1, h2⟩ => by rw [e]; exact Slots.cons (t := ⟨_⟩) h1 (Args.sl h2)⟩

/-! ### judgements: the weakest readings -/
def wE (X : Cx) (e : Expr) : TE := fun σ H Q => ∀ (pins : List (Addr × Obj)) (s : Shared), Inv X pins σ H s → wpAny (model X.prog X.w) X.A (eval e X.env) (EP X pins σ Q) X.xe s
def wT (X : Cx) (e : Expr) : TT := fun σ H Q => ∀ (pins : List (Addr × Obj)) (s : Shared), Inv X pins σ H s → wpAny (model X.prog X.w) X.A (isTrue e X.env (eval e X.env)) (TP X pins σ Q) X.xe s
def wA (X : Cx) (es : List Expr) : TA := fun σ H Q => ∀ (pos : Pos) (pins : List (Addr × Obj)) (s : Shared), Inv X pins σ H s → wpAny (model X.prog X.w) X.A (spliced (backTo pos (starEach es X.env))) (AP X pins σ Q) X.xe s
def wS (X : Cx) (st : Stmt) : TS := fun D σ H => ∀ (pins : List (Addr × Obj)) (s : Shared), Inv X pins σ H s → wpAny (model X.prog X.w) X.A (exec st X.env) (SP X pins D) X.xe s
def wB (X : Cx) (sts : List Stmt) : TS := fun D σ H => ∀ (pins : List (Addr × Obj)) (s : Shared), Inv X pins σ H s → wpAny (model X.prog X.w) X.A (execs sts X.env) (SP X pins D) X.xe s
section
variable {X : Cx} {e : Expr} {es : List Expr} {st : Stmt} {sts : List Stmt} {σ : L2.St} {H : Hp}
theorem pe_w : PE X e (wE X e) := ⟨fun pins s σ H Q I h => h pins s I⟩
theorem pt_w : PT X e (wT X e) := ⟨fun pins s σ H Q I h => h pins s I⟩
theorem pa_w : PA X es (wA X es) := ⟨fun pos pins s σ H Q I h => h pos pins s I⟩
theorem ps_w : PS X st (wS X st) := ⟨fun pins s σ H D I h => h pins s I⟩
theorem pss_w : PSs X sts (wB X sts) := ⟨fun pins s σ H D I h => h pins s I⟩
theorem w_pe {t : TE} {Q : VK} (h : PE X e t) (q : t σ H Q) : wE X e σ H Q := fun pins s I => h.run pins s σ H Q I q
theorem w_pt {t : TT} {Q : Bool → Hp → Prop} (h : PT X e t) (q : t σ H Q) : wT X e σ H Q := fun pins s I => h.run pins s σ H Q I q
theorem w_pa {t : TA} {Q : List V → Hp → Prop} (h : PA X es t) (q : t σ H Q) : wA X es σ H Q := fun pos pins s I => h.run pos pins s σ H Q I q
theorem w_ps {t : TS} {D : Ends} (h : PS X st t) (q : t D σ H) : wS X st D σ H := fun pins s I => h.run pins s σ H D I q
theorem w_pss {t : TS} {D : Ends} (h : PSs X sts t) (q : t D σ H) : wB X sts D σ H := fun pins s I => h.run pins s σ H D I q
theorem w_cons {rest : List Stmt} {D : Ends} (h : wS X st { D with nx := fun σ' H' => wB X rest D σ' H' } σ H) : wB X (st :: rest) D σ H := w_pss (pss_cons ps_w pss_w) h
theorem w_nil {D : Ends} (h : D.nx σ H) : wB X [] D σ H := w_pss pss_nil h
end

/-- e gives what means some y of P -/
def EV {α : Type} [Rp α] (X : Cx) (e : Expr) (Γ : Gm) (S : HS) (P : α → Prop) : Prop :=
  ∀ σ, Slots S.G σ Γ → ∀ S1, Grow S S1 → ∀ Q : VK, (∀ S2 v y, Grow S1 S2 → Rp.rep S2.G v y → P y → Q v S2.H) → wE X e σ S1.H Q
/-- e gives what means x -/
def ER {α : Type} [Rp α] (X : Cx) (e : Expr) (Γ : Gm) (S : HS) (x : α) : Prop :=
  ∀ σ, Slots S.G σ Γ → ∀ S1, Grow S S1 → ∀ Q : VK, (∀ S2 v, Grow S1 S2 → Rp.rep S2.G v x → Q v S2.H) → wE X e σ S1.H Q
/-- the test e answers b -/
def TR (X : Cx) (e : Expr) (Γ : Gm) (S : HS) (b : Bool) : Prop :=
  ∀ σ, Slots S.G σ Γ → ∀ S1, Grow S S1 → ∀ Q : Bool → Hp → Prop, (∀ S2, Grow S1 S2 → Q b S2.H) → wT X e σ S1.H Q
def AR {α : Type} [Args α] (X : Cx) (es : List Expr) (Γ : Gm) (S : HS) (x : α) : Prop :=
  ∀ σ, Slots S.G σ Γ → ∀ S1, Grow S S1 → ∀ Q : List V → Hp → Prop, (∀ S2 vs, Grow S1 S2 → Args.reps S2.G vs x → Q vs S2.H) → wA X es σ S1.H Q
/-- a block, from slots that mean Γ -/
def SB (X : Cx) (sts : List Stmt) (D : Ends) (Γ : Gm) (S : HS) : Prop := ∀ σ, Slots S.G σ Γ → wB X sts D σ S.H
section
variable {α β γ : Type} [Rp α] [Rp β] [Rp γ] {X : Cx} {e a b : Expr} {Γ : Gm} {S : HS} {x : α} {y : β}
theorem ER.ev (h : ER X e Γ S x) : EV X e Γ S (fun z => z = x) := fun σ hσ S1 g Q k => h σ hσ S1 g Q fun S2 v g2 r => k S2 v x g2 r rfl
theorem EV.er (h : EV X e Γ S (fun z => z = x)) : ER X e Γ S x := fun σ hσ S1 g Q k => h σ hσ S1 g Q fun S2 v z g2 r e => k S2 v g2 (e ▸ r)
theorem ER.up {S' : HS} (h : ER X e Γ S x) (g : Grow S S') (hs : ∀ σ, Slots S'.G σ Γ → Slots S.G σ Γ) : ER X e Γ S' x := fun σ hσ S1 g1 Q k => h σ (hs σ hσ) S1 (g.trans g1) Q k
/-! ### names, constants -/
theorem er_var (i : Nat) {α : Type} {inst : Rp α} {x : α} {nm : Str} {pos : Pos} (hΓ : Γ[i]? = some (some ⟨x⟩) := by rfl) (hN : X.N[i]? = some nm := by rfl)
    (hv : Vis X.env.scope nm := by first | exact Or.inl rfl | exact Or.inr (Or.inl rfl) | exact Or.inr (Or.inr rfl)) (hd : (nm == ("__debug__" : Str)) = false := by decide)
    (hcd : (nm == ("__classdict__" : Str)) = false := by decide) : ER X (.Name nm pos) Γ S x := fun σ hσ S1 g Q k => by
  obtain ⟨v, e1, r⟩ := hσ.at_ i _ hΓ
  exact w_pe (pe_var hN hv hd hcd) ⟨v, e1, k S1 v (.refl _) (inst.mono g.g r)⟩
theorem er_int {i : Int} {j pos} : ER X (.Constant (.int i) j pos) Γ S i := fun σ hσ S1 g Q k => w_pe pe_int (k S1 _ (.refl _) rfl)
theorem er_bl {i : Bool} {j pos} : ER X (.Constant (.bool i) j pos) Γ S i := fun σ hσ S1 g Q k => w_pe pe_bl (k S1 _ (.refl _) rfl)
theorem er_str {i : Str} {j pos} : ER X (.Constant (.str i) j pos) Γ S i := fun σ hσ S1 g Q k => w_pe pe_str (k S1 _ (.refl _) rfl)
theorem er_non {j pos} : ER X (.Constant .none j pos) Γ S (none : Option α) := fun σ hσ S1 g Q k => w_pe pe_non (k S1 _ (.refl _) rfl)
theorem er_unit {j pos} : ER X (.Constant .none j pos) Γ S () := fun σ hσ S1 g Q k => w_pe pe_non (k S1 _ (.refl _) rfl)
/-- a module's constant -/
theorem er_gint {nm : Str} {pos : Pos} {i : Int} {t : Tok} (hm : X.mg nm = some (.int i t)) (hg : Gl X nm := by rfl) (hd : (nm == ("__debug__" : Str)) = false := by decide) : ER X (.Name nm pos) Γ S i :=
  fun σ hσ S1 g Q k => w_pe (pe_glob (v := .int i) hg hm ⟨t, rfl⟩ hd) (k S1 _ (.refl _) rfl)
theorem er_gstr {nm : Str} {pos : Pos} {i : Str} {t : Tok} (hm : X.mg nm = some (.str i t)) (hg : Gl X nm := by rfl) (hd : (nm == ("__debug__" : Str)) = false := by decide) : ER X (.Name nm pos) Γ S i :=
  fun σ hσ S1 g Q k => w_pe (pe_glob (v := .str i) hg hm ⟨t, rfl⟩ hd) (k S1 _ (.refl _) rfl)
end
end Fl

set_option Elab.async false
set_option linter.all false
set_option maxRecDepth 100000
set_option maxHeartbeats 4000000
namespace Fl
open PySem PySem.Spec PyProof.Rows L2
abbrev PP : Program := PySem.Challenge.pw_clearfloor_k94_whole_the_log_is_the_flee
/-- what stands around every def: the written part, the world, the module's names, the base -/
class Ctx where
  K : PySem.W.Frag
  w : World
  mg : Str → Option Value
  base : Heap
  kin : K.In base
  ns : base.Ns mainGlobals mg
  says : He.SaysT fa fn ts w K
  more : ex K = true
  fnr : fnR K = vaR
  tb : GxR.TabB base mg (He.codeOf K ("whole_problem", none)) (He.tabOf K (He.codeOf K ("whole_problem", none)))
theorem moreA [c : Ctx] : exA c.K = true := (He.ba (show (exA c.K && exB c.K) = true from c.more)).1
theorem moreB [c : Ctx] : exB c.K = true := (He.ba (show (exA c.K && exB c.K) = true from c.more)).2
/-- X stands there, with room for k calls -/
class InC [c : Ctx] (k : outParam Nat) (X : Cx) : Prop where
  prog : X.prog = PP
  w : X.w = c.w
  K : X.K = c.K
  mg : X.mg = c.mg
  base : X.base = c.base
  room : Room k X.A
  calm : X.calm = true
instance [Ctx] {k : Nat} {X : Cx} {s : Shared} {H : Hp} {scope : Scope} {ce : Env} {fp : List Addr} [h : InC k X] : InC k (X.blk s H scope ce fp) := ⟨h.prog, h.w, h.K, h.mg, h.base, h.room, h.calm⟩

section
variable {α β γ : Type} [Rp α] [Rp β] [Rp γ] {X : Cx} {e a b c d : Expr} {Γ : Gm} {S : HS} {x : α} {y : β} {pos : Pos} {es : List Expr}
/-! ### argument lists -/
theorem ar_nil : AR X [] Γ S () := fun σ hσ S1 g Q k => w_pa pa_nil (k S1 _ (.refl _) rfl)
theorem ar_cons {β : Type} [Args β] {y : β} (h : ER X e Γ S x) (hr : AR X es Γ S y) (hs : starEach (e :: es) X.env = (false, eval e X.env) :: starEach es X.env := by rfl) : AR X (e :: es) Γ S (x, y) :=
  fun σ hσ S1 g Q k => w_pa (pa_cons pe_w pa_w hs) (h σ hσ S1 g _ fun S2 v g2 r => hr σ hσ S2 (g.trans g2) _ fun S3 vs g3 rs => k S3 (v :: vs) (g2.trans g3) ⟨v, vs, rfl, Rp.mono g3.g r, rs⟩)
/-! ### operators -/
theorem er_op {op : Operator} {r : R2} {z : γ} (ho : OpR X (binaryOp op) r) (ha : ER X a Γ S x) (hb : ER X b Γ S y)
    (hr : ∀ (S2 : HS) (u w : V) (Q : VK), Rp.rep S2.G u x → Rp.rep S2.G w y → (∀ S3 v, Grow S2 S3 → Rp.rep S3.G v z → Q v S3.H) → r u w S2.H Q) : ER X (.BinOp a op b pos) Γ S z :=
  fun σ hσ S1 g Q k => w_pe (pe_op ho pe_w pe_w) (ha σ hσ S1 g _ fun S2 u g2 ru => hb σ hσ S2 (g.trans g2) _ fun S3 w g3 rb => hr S3 u w Q (Rp.mono g3.g ru) rb fun S4 v g4 rv => k S4 v ((g2.trans g3).trans g4) rv)
variable {i j : Int}
theorem er_add (ha : ER X a Γ S i) (hb : ER X b Γ S j) : ER X (.BinOp a .Add b pos) Γ S (i + j) :=
  er_op op_add ha hb fun S2 u w Q ru rb k => ⟨i, j, ru, rb, k S2 _ (.refl _) rfl⟩
theorem er_sub (ha : ER X a Γ S i) (hb : ER X b Γ S j) : ER X (.BinOp a .Sub b pos) Γ S (i - j) :=
  er_op op_sub ha hb fun S2 u w Q ru rb k => ⟨i, j, ru, rb, k S2 _ (.refl _) rfl⟩
theorem er_mul (ha : ER X a Γ S i) (hb : ER X b Γ S j) (h : CMul i j) : ER X (.BinOp a .Mult b pos) Γ S (i * j) :=
  er_op op_mul ha hb fun S2 u w Q ru rb k => ⟨i, j, ru, rb, h, k S2 _ (.refl _) rfl⟩
theorem er_mod (ha : ER X a Γ S i) (hb : ER X b Γ S j) (h : 0 < j) : ER X (.BinOp a .Mod b pos) Γ S (i % j) :=
  er_op op_mod ha hb fun S2 u w Q ru rb k => ⟨i, j, ru, rb, h, k S2 _ (.refl _) rfl⟩
theorem er_div (ha : ER X a Γ S i) (hb : ER X b Γ S j) (h : CDiv i j) : ER X (.BinOp a .FloorDiv b pos) Γ S (i / j) :=
  er_op op_fdiv ha hb fun S2 u w Q ru rb k => ⟨i, j, ru, rb, h, k S2 _ (.refl _) rfl⟩
theorem er_pow (ha : ER X a Γ S i) (hb : ER X b Γ S j) (h : CPow i j) : ER X (.BinOp a .Pow b pos) Γ S (i ^ j.toNat) :=
  er_op op_pow ha hb fun S2 u w Q ru rb k => ⟨i, j, ru, rb, h, k S2 _ (.refl _) rfl⟩
theorem er_adds {s t : Str} (ha : ER X a Γ S s) (hb : ER X b Γ S t) (h : s.length + t.length ≤ sizeLine) : ER X (.BinOp a .Add b pos) Γ S (s ++ t) :=
  er_op op_add_str ha hb fun S2 u w Q ru rb k => ⟨s, t, ru, rb, h, k S2 _ (.refl _) rfl⟩
theorem er_cat {xs ys : List α} (ha : ER X a Γ S xs) (hb : ER X b Γ S ys) (h : xs.length + ys.length ≤ sizeLine) : ER X (.BinOp a .Add b pos) Γ S (xs ++ ys) :=
  er_op op_cat ha hb fun S2 u w Q ⟨l, us, e1, h1, r1⟩ ⟨m, ws, e2, h2, r2⟩ k => ⟨l, m, us, ws, e1, e2, S2.le _ _ h1, S2.le _ _ h2, by rw [r1.len, r2.len]; exact h, fun p hp =>
    k (S2.new p _ hp) _ (.new S2 p _ hp) ⟨p, us ++ ws, rfl, HS.new_at, ((r1.app r2).mono (Grow.new S2 p _ hp).g)⟩⟩
theorem er_neg (ha : ER X a Γ S i) : ER X (.UnaryOp .USub a pos) Γ S (-i) := fun σ hσ S1 g Q k => w_pe (pe_un un_neg pe_w) (ha σ hσ S1 g _ fun S2 u g2 ru => ⟨i, ru, k S2 _ g2 rfl⟩)

/-! ### comparisons -/
def CV (X : Cx) (op : CmpOp) (a b : Expr) (Γ : Gm) (S : HS) (z : Bool) : Prop :=
  ∃ r, OpR X (compareOp op) r ∧ ∀ σ, Slots S.G σ Γ → ∀ S1, Grow S S1 → ∀ Q : VK, (∀ S2, Grow S1 S2 → Q (.bl z) S2.H) → tOp r (wE X a) (wE X b) σ S1.H Q
theorem cv_of {op : CmpOp} {r : R2} {z : Bool} (ho : OpR X (compareOp op) r) (ha : ER X a Γ S x) (hb : ER X b Γ S y)
    (hr : ∀ (S2 : HS) (u w : V) (Q : VK), Rp.rep S2.G u x → Rp.rep S2.G w y → Q (.bl z) S2.H → r u w S2.H Q) : CV X op a b Γ S z :=
  ⟨r, ho, fun σ hσ S1 g Q k => ha σ hσ S1 g _ fun S2 u g2 ru => hb σ hσ S2 (g.trans g2) _ fun S3 w g3 rb => hr S3 u w Q (Rp.mono g3.g ru) rb (k S3 (g2.trans g3))⟩
theorem er_cmp {op : CmpOp} {z : Bool} (h : CV X op a b Γ S z) (hm : behindInMarks op b = false := by first | exact nomark _ | rfl) : ER X (.Compare a [op] [b] pos) Γ S z := by
  obtain ⟨r, ho, h⟩ := h
  exact fun σ hσ S1 g Q k => w_pe (pe_cmpR ho pe_w pe_w hm) (h σ hσ S1 g _ fun S2 g2 => k S2 _ g2 rfl)
theorem tr_cmp {op : CmpOp} {z : Bool} (h : CV X op a b Γ S z) (hm : behindInMarks op b = false := by first | exact nomark _ | rfl) : TR X (.Compare a [op] [b] pos) Γ S z := by
  obtain ⟨r, ho, h⟩ := h
  exact fun σ hσ S1 g Q k => w_pt (pt_cmpR ho pe_w pe_w hm) (h σ hσ S1 g _ fun S2 g2 => ⟨z, rfl, k S2 g2⟩)
theorem cv_lt (ha : ER X a Γ S i) (hb : ER X b Γ S j) : CV X .Lt a b Γ S (decide (i < j)) := cv_of op_lt ha hb fun S2 u w Q ru rb k => ⟨i, j, ru, rb, k⟩
theorem cv_le (ha : ER X a Γ S i) (hb : ER X b Γ S j) : CV X .LtE a b Γ S (decide (i ≤ j)) := cv_of op_le ha hb fun S2 u w Q ru rb k => ⟨i, j, ru, rb, k⟩
theorem cv_gt (ha : ER X a Γ S i) (hb : ER X b Γ S j) : CV X .Gt a b Γ S (decide (j < i)) := cv_of op_gt ha hb fun S2 u w Q ru rb k => ⟨i, j, ru, rb, k⟩
theorem cv_ge (ha : ER X a Γ S i) (hb : ER X b Γ S j) : CV X .GtE a b Γ S (decide (j ≤ i)) := cv_of op_ge ha hb fun S2 u w Q ru rb k => ⟨i, j, ru, rb, k⟩
theorem vint_eq (i j : Int) : decide (V.int i = V.int j) = decide (i = j) := by
  by_cases h : i = j
  · rw [h]
    simp
  · rw [decide_eq_false h, decide_eq_false (fun z => h (V.int.inj z))]
theorem vstr_eq (s t : Str) : decide (V.str s = V.str t) = decide (s = t) := by
  by_cases h : s = t
  · rw [h]
    simp
  · rw [decide_eq_false h, decide_eq_false (fun z => h (V.str.inj z))]
theorem cv_eqI (ha : ER X a Γ S i) (hb : ER X b Γ S j) : CV X .Eq a b Γ S (decide (i = j)) := cv_of op_eq ha hb fun S2 u w Q ru rb k => by
  cases ru
  cases rb
  exact ⟨rfl, by rw [vint_eq]; exact k⟩
theorem cv_neI (ha : ER X a Γ S i) (hb : ER X b Γ S j) : CV X .NotEq a b Γ S (!decide (i = j)) := cv_of op_ne ha hb fun S2 u w Q ru rb k => by
  cases ru
  cases rb
  exact ⟨rfl, by rw [vint_eq]; exact k⟩
theorem cv_eqS {s t : Str} (ha : ER X a Γ S s) (hb : ER X b Γ S t) : CV X .Eq a b Γ S (decide (s = t)) := cv_of op_eq ha hb fun S2 u w Q ru rb k => by
  cases ru
  cases rb
  exact ⟨rfl, by rw [vstr_eq]; exact k⟩
theorem cv_neS {s t : Str} (ha : ER X a Γ S s) (hb : ER X b Γ S t) : CV X .NotEq a b Γ S (!decide (s = t)) := cv_of op_ne ha hb fun S2 u w Q ru rb k => by
  cases ru
  cases rb
  exact ⟨rfl, by rw [vstr_eq]; exact k⟩
theorem oint_eq {G : Hp} {v : V} {o : Option Int} {j : Int} (h : Rp.rep G v o) : scal v (.int j) = true ∧ decide (v = V.int j) = decide (o = some j) := by
  cases o with
  | none =>
    have e : v = .non := h
    rw [e]
    exact ⟨rfl, by simp⟩
  | some i =>
    have e : v = .int i := h.2
    rw [e, vint_eq]
    refine ⟨rfl, ?_⟩
    by_cases q : i = j
    · rw [q]
      simp
    · rw [decide_eq_false q, decide_eq_false (fun z => q (Option.some.inj z))]
theorem cv_eqO {o : Option Int} (ha : ER X a Γ S o) (hb : ER X b Γ S j) : CV X .Eq a b Γ S (decide (o = some j)) := cv_of op_eq ha hb fun S2 u w Q ru rb k => by
  cases rb
  obtain ⟨h1, h2⟩ := oint_eq (j := j) ru
  exact ⟨h1, by rw [h2]; exact k⟩
theorem cv_neO {o : Option Int} (ha : ER X a Γ S o) (hb : ER X b Γ S j) : CV X .NotEq a b Γ S (!decide (o = some j)) := cv_of op_ne ha hb fun S2 u w Q ru rb k => by
  cases rb
  obtain ⟨h1, h2⟩ := oint_eq (j := j) ru
  exact ⟨h1, by rw [h2]; exact k⟩
theorem rep_isN {G : Hp} {v : V} {o : Option α} (h : Rp.rep G v o) : decide (v = .non) = o.isNone := by
  cases o with
  | none => exact decide_eq_true h
  | some y => exact decide_eq_false h.1
theorem cv_isN {o : Option α} {j pos'} (ha : ER X a Γ S o) : CV X .Is a (.Constant .none j pos') Γ S o.isNone := cv_of op_isN ha er_unit fun S2 u w Q ru rb k => ⟨rb, by rw [rep_isN ru]; exact k⟩
theorem cv_notN {o : Option α} {j pos'} (ha : ER X a Γ S o) : CV X .IsNot a (.Constant .none j pos') Γ S o.isSome := cv_of op_notN ha er_unit fun S2 u w Q ru rb k => ⟨rb, by
  rw [rep_isN ru]
  cases o <;> exact k⟩
theorem in_ints (x : Int) : ∀ xs : List Int, inV (.int x) (xs.map V.int) = decide (x ∈ xs) := fun xs => by
  unfold inV
  rw [List.any_map]
  induction xs with
  | nil => simp
  | cons y r ih =>
    rw [List.any_cons, ih]
    have e : ((fun z => eqV z (V.int x)) ∘ V.int) y = (y == x) := rfl
    rw [e]
    by_cases h : x = y
    · subst h
      simp
    · have h2 : ¬ y = x := fun z => h z.symm
      simp [h, h2]
theorem flat_ints (xs : List Int) : (xs.map V.int).all flatV = true := by
  rw [List.all_map]
  exact List.all_eq_true.mpr fun _ _ => rfl
theorem cv_inL {xs : List Int} (ha : ER X a Γ S i) (hb : ER X b Γ S xs) : CV X .In a b Γ S (decide (i ∈ xs)) := cv_of op_in_seq ha hb fun S2 u w Q ru ⟨p, vs, e, h, r⟩ k => by
  cases ru
  have e2 := r.int
  subst e2
  exact ⟨p, _, e, .inl (SqL.of (S2.le _ _ h)), rfl, flat_ints xs, by rw [if_neg Bool.false_ne_true, in_ints]; exact k⟩
theorem cv_niL {xs : List Int} (ha : ER X a Γ S i) (hb : ER X b Γ S xs) : CV X .NotIn a b Γ S (!decide (i ∈ xs)) := cv_of op_notIn_seq ha hb fun S2 u w Q ru ⟨p, vs, e, h, r⟩ k => by
  cases ru
  have e2 := r.int
  subst e2
  exact ⟨p, _, e, .inl (SqL.of (S2.le _ _ h)), rfl, flat_ints xs, by rw [if_pos rfl, in_ints]; exact k⟩

/-! ### tests -/
variable {s t u : Bool}
theorem tr_bool (h : ER X e Γ S s) (he : ∀ whole, isTrue e X.env whole = (do let v ← whole; standAt e.pos; holding [v] (truthy v)) := by intro _; rfl) : TR X e Γ S s :=
  fun σ hσ S1 g Q k => w_pt (pt_val pe_w he) (h σ hσ S1 g _ fun S2 v g2 r => ⟨s, r, k S2 g2⟩)
theorem tr_not (h : TR X e Γ S s) : TR X (.UnaryOp .Not e pos) Γ S (!s) := fun σ hσ S1 g Q k => w_pt (pt_not pt_w) (h σ hσ S1 g _ fun S2 g2 => k S2 g2)
theorem tr_and {p2 : Pos} (h1 : TR X a Γ S s) (h2 : s = true → TR X b Γ S t) : TR X (.BoolOp .And [a, b] pos) Γ S (s && t) :=
  fun σ hσ S1 g Q k => w_pt (PW.pt (pw_and pt_w (pw_and1 pt_w))) (h1 σ hσ S1 g _ fun S2 g2 => by
    cases s with
    | true => exact iteT (h2 rfl σ hσ S2 (g.trans g2) _ fun S3 g3 => k S3 (g2.trans g3))
    | false => exact iteF (k S2 g2))
theorem tr_and3 (h1 : TR X a Γ S s) (h2 : s = true → TR X b Γ S t) (h3 : s = true → t = true → TR X c Γ S u) : TR X (.BoolOp .And [a, b, c] pos) Γ S (s && (t && u)) :=
  fun σ hσ S1 g Q k => w_pt (PW.pt (pw_and pt_w (pw_and pt_w (pw_and1 pt_w)))) (h1 σ hσ S1 g _ fun S2 g2 => by
    cases s with
    | true => exact iteT (h2 rfl σ hσ S2 (g.trans g2) _ fun S3 g3 => by
        cases t with
        | true => exact iteT (h3 rfl rfl σ hσ S3 ((g.trans g2).trans g3) _ fun S4 g4 => k S4 ((g2.trans g3).trans g4))
        | false => exact iteF (k S3 (g2.trans g3)))
    | false => exact iteF (k S2 g2))
theorem tr_or (h1 : TR X a Γ S s) (h2 : s = false → TR X b Γ S t) : TR X (.BoolOp .Or [a, b] pos) Γ S (s || t) :=
  fun σ hσ S1 g Q k => w_pt (PW.pt (pw_or pt_w (pw_or1 pt_w))) (h1 σ hσ S1 g _ fun S2 g2 => by
    cases s with
    | true => exact iteT (k S2 g2)
    | false => exact iteF (h2 rfl σ hσ S2 (g.trans g2) _ fun S3 g3 => k S3 (g2.trans g3)))
theorem tr_or3 (h1 : TR X a Γ S s) (h2 : s = false → TR X b Γ S t) (h3 : s = false → t = false → TR X c Γ S u) : TR X (.BoolOp .Or [a, b, c] pos) Γ S (s || (t || u)) :=
  fun σ hσ S1 g Q k => w_pt (PW.pt (pw_or pt_w (pw_or pt_w (pw_or1 pt_w)))) (h1 σ hσ S1 g _ fun S2 g2 => by
    cases s with
    | true => exact iteT (k S2 g2)
    | false => exact iteF (h2 rfl σ hσ S2 (g.trans g2) _ fun S3 g3 => by
        cases t with
        | true => exact iteT (k S3 (g2.trans g3))
        | false => exact iteF (h3 rfl rfl σ hσ S3 ((g.trans g2).trans g3) _ fun S4 g4 => k S4 ((g2.trans g3).trans g4))))
theorem er_orB (h1 : ER X a Γ S s) (h2 : s = false → ER X b Γ S t) : ER X (.BoolOp .Or [a, b] pos) Γ S (s || t) :=
  fun σ hσ S1 g Q k => w_pe (pe_or pe_w (pe_one pe_w)) (h1 σ hσ S1 g _ fun S2 v g2 r => ⟨s, r, by
    cases s with
    | true => exact iteT (k S2 _ g2 rfl)
    | false => exact iteF (h2 rfl σ hσ S2 (g.trans g2) _ fun S3 w g3 r3 => k S3 w (g2.trans g3) r3)⟩)
theorem er_andB (h1 : ER X a Γ S s) (h2 : s = true → ER X b Γ S t) : ER X (.BoolOp .And [a, b] pos) Γ S (s && t) :=
  fun σ hσ S1 g Q k => w_pe (pe_and pe_w (pe_one pe_w)) (h1 σ hσ S1 g _ fun S2 v g2 r => ⟨s, r, by
    cases s with
    | true => exact iteT (h2 rfl σ hσ S2 (g.trans g2) _ fun S3 w g3 r3 => k S3 w (g2.trans g3) r3)
    | false => exact iteF (k S2 _ g2 rfl)⟩)
theorem er_notB (h : ER X e Γ S s) : ER X (.UnaryOp .Not e pos) Γ S (!s) := fun σ hσ S1 g Q k => w_pe (pe_not pe_w) (h σ hσ S1 g _ fun S2 v g2 r => ⟨s, r, k S2 _ g2 rfl⟩)
theorem rep_emp {vs : List V} {xs : List α} {G : Hp} (r : reps G vs xs) : (!vs.isEmpty) = !xs.isEmpty := by
  cases r <;> rfl
theorem tr_list {xs : List α} (h : ER X e Γ S xs) (he : ∀ whole, isTrue e X.env whole = (do let v ← whole; standAt e.pos; holding [v] (truthy v)) := by intro _; rfl) : TR X e Γ S (!xs.isEmpty) :=
  fun σ hσ S1 g Q k => w_pt (pt_truth pe_w he) (h σ hσ S1 g _ fun S2 v g2 ⟨p, vs, e1, e2, r⟩ => by
    subst e1
    exact ⟨_, .inl ⟨vs, SqL.of (S2.le _ _ e2), (rep_emp r).symm⟩, k S2 g2⟩)
end
end Fl

set_option Elab.async false
set_option linter.all false
set_option maxRecDepth 100000
set_option maxHeartbeats 4000000
namespace Fl
open PySem PySem.Spec PyProof.Rows L2

/-! ### weaker slots -/
inductive Weak : Gm → Gm → Prop
  | nil : Weak [] []
  | keep {x : Option TV} {a b : Gm} : Weak a b → Weak (x :: a) (x :: b)
  | drop {x : Option TV} {a b : Gm} : Weak a b → Weak (none :: a) (x :: b)
theorem Weak.refl : ∀ Γ : Gm, Weak Γ Γ
  | [] => .nil
  | _ :: r => .keep (Weak.refl r)
theorem Weak.len {a b : Gm} (h : Weak a b) : a.length = b.length := by
  induction h with
  | nil => rfl
  | keep _ ih => rw [List.length_cons, List.length_cons, ih]
  | drop _ ih => rw [List.length_cons, List.length_cons, ih]
theorem Weak.at_ {a b : Gm} (h : Weak a b) : ∀ (i : Nat) (t : TV), a[i]? = some (some t) → b[i]? = some (some t) := by
  induction h with
  | nil => intro i t e; exact e
  | keep _ ih =>
    intro i t e
    cases i with
    | zero => exact e
    | succ i =>
      rw [List.getElem?_cons_succ] at e ⊢
      exact ih i t e
  | drop _ ih =>
    intro i t e
    cases i with
    | zero => cases e
    | succ i =>
      rw [List.getElem?_cons_succ] at e ⊢
      exact ih i t e
theorem Slots.wk {G : Hp} {σ : L2.St} {Γ Γ' : Gm} (h : Slots G σ Γ) (w : Weak Γ' Γ) : Slots G σ Γ' := h.weak w.len w.at_

/-! ### what a loop walks -/
structure Yields {α : Type} [Rp α] (J : It) (G : Hp) (xs : List α) : Prop where
  go : ∀ (i : Nat) (S : HS), Same G S.G → i < xs.length → J.go i S.H
  yld : ∀ (i : Nat) (S : HS) (v : V) (H' : Hp), Same G S.G → i < xs.length → J.yld i S.H v H' → ∃ S1 : HS, S1.H = H' ∧ Grow S S1 ∧ ∃ x, xs[i]? = some x ∧ Rp.rep S1.G v x
  stop : ∀ (i : Nat) (S : HS), Same G S.G → xs.length ≤ i → J.stop i S.H
def IT {α : Type} [Rp α] (X : Cx) (tg iter : Expr) (Γ : Gm) (S : HS) (xs : List α) : Prop :=
  ∃ wi : TI, PI X tg iter wi ∧ ∀ σ, Slots S.G σ Γ → ∀ S1, Grow S S1 → ∀ R : It → Hp → Prop, (∀ S2 J, Grow S1 S2 → Yields J S2.G xs → R J S2.H) → wi σ S1.H R
section
variable {α β γ : Type} [Rp α] [Rp β] [Rp γ] {X : Cx} {tg e a b c d : Expr} {Γ : Gm} {S : HS} {x : α} {y : β} {pos : Pos} {es : List Expr}
theorem yl_list {K : PySem.W.Frag} {G : Hp} {p : Addr} {vs : List V} {xs : List α} (h : G p = some (.lst vs)) (r : reps G vs xs) : Yields (Itl K p) G xs where
  go := fun i S s hi => by
    obtain ⟨v, e, _⟩ := r.get (List.getElem?_eq_getElem hi)
    exact ⟨vs, v, SqL.of (S.le _ _ (s _ _ h)), e⟩
  yld := fun i S v H' s hi ⟨e, q⟩ => by
    have e2 := q vs (SqL.of (S.le _ _ (s _ _ h)))
    obtain ⟨x, e3, r3⟩ := r.got e2
    exact ⟨S, e.symm, .refl _, x, e3, Rp.mono s r3⟩
  stop := fun i S s hi => ⟨vs, SqL.of (S.le _ _ (s _ _ h)), by rw [r.len]; exact hi⟩
theorem it_list {xs : List α} (h : ER X e Γ S xs) : IT X tg e Γ S xs :=
  ⟨_, pi_list pe_w, fun σ hσ S1 g R k => h σ hσ S1 g _ fun S2 v g2 ⟨p, vs, e1, e2, r⟩ => ⟨p, e1, ⟨vs, SqL.of (S2.le _ _ e2)⟩, k S2 _ g2 (yl_list e2 r)⟩⟩
/-- the numbers lo, lo + 1, .. -/
def rangeI (lo : Int) (n : Nat) : List Int := (List.range n).map fun (i : Nat) => lo + (i : Int)
theorem rangeI_len (lo : Int) (n : Nat) : (rangeI lo n).length = n := by
  unfold rangeI
  rw [List.length_map, List.length_range]
theorem rangeI_get {lo : Int} {n i : Nat} (h : i < n) : (rangeI lo n)[i]? = some (lo + (i : Int)) := by
  unfold rangeI
  rw [List.getElem?_map, List.getElem?_range h]
  rfl
theorem mem_rangeI {lo x : Int} {n : Nat} : x ∈ rangeI lo n ↔ lo ≤ x ∧ x < lo + n := by
  unfold rangeI
  rw [List.mem_map]
  constructor
  · rintro ⟨i, hi, e⟩
    have := List.mem_range.mp hi
    omega
  · intro ⟨h1, h2⟩
    exact ⟨(x - lo).toNat, List.mem_range.mpr (by omega), by omega⟩
theorem yl_range {G : Hp} {lo : Int} {n : Nat} : Yields (Itr lo n) G (rangeI lo n) where
  go := fun i S s hi => by
    rw [rangeI_len] at hi
    exact hi
  yld := fun i S v H' s hi ⟨e, q⟩ => by
    rw [rangeI_len] at hi
    exact ⟨S, e.symm, .refl _, _, rangeI_get hi, q⟩
  stop := fun i S s hi => by
    rw [rangeI_len] at hi
    exact hi
theorem it_range {j : Int} {p : Pos} (hm : X.mg "range" = none) (h : ER X a Γ S j) (h1 : -(2 ^ 62) ≤ j ∧ j < 2 ^ 62) (hg : Gl X "range" := by rfl) (hs : starEach [a] X.env = [(false, eval a X.env)] := by rfl) :
    IT X tg (.Call (.Name "range" p) [a] [] pos) Γ S (rangeI 0 j.toNat) :=
  ⟨_, pi_range1 hg hm (pa_cons pe_w pa_nil hs) hs, fun σ hσ S1 g R k => h σ hσ S1 g _ fun S2 v g2 r => ⟨j, by rw [show v = V.int j from r], h1.1, h1.2, k S2 _ g2 yl_range⟩⟩
theorem it_range2 {i j : Int} {p : Pos} (hm : X.mg "range" = none) (ha : ER X a Γ S i) (hb : ER X b Γ S j) (h1 : -(2 ^ 62) ≤ i ∧ i < 2 ^ 62 ∧ -(2 ^ 62) ≤ j ∧ j < 2 ^ 62) (hg : Gl X "range" := by rfl)
    (hs : starEach [a, b] X.env = [(false, eval a X.env), (false, eval b X.env)] := by rfl) (hs2 : starEach [b] X.env = [(false, eval b X.env)] := by rfl) :
    IT X tg (.Call (.Name "range" p) [a, b] [] pos) Γ S (rangeI i (j - i).toNat) :=
  ⟨_, pi_range2 hg hm (pa_cons pe_w (pa_cons pe_w pa_nil hs2) (hs.trans (congrArg (List.cons _) hs2.symm))) hs hs2, fun σ hσ S1 g R k => ha σ hσ S1 g _ fun S2 u g2 ru => hb σ hσ S2 (g.trans g2) _ fun S3 v g3 rv =>
    ⟨i, j, by rw [show u = V.int i from ru, show v = V.int j from rv], h1, k S3 _ (g2.trans g3) yl_range⟩⟩
/-- enumerate -/
def enumI (xs : List α) : List (Int × α) := (rangeI 0 xs.length).zip xs
theorem enumI_len (xs : List α) : (enumI xs).length = xs.length := by
  unfold enumI
  rw [List.length_zip, rangeI_len, Nat.min_self]
theorem enumI_get {xs : List α} {i : Nat} {x : α} (h : xs[i]? = some x) : (enumI xs)[i]? = some ((i : Int), x) := by
  have hi := (List.getElem?_eq_some_iff.mp h).1
  unfold enumI
  rw [List.getElem?_zip_eq_some]
  exact ⟨by rw [rangeI_get hi, Int.zero_add], h⟩
theorem rep_pair_new {S : HS} {p : Addr} {u w : V} (hp : S.H p = none) (ru : Rp.rep S.G u x) (rw' : Rp.rep S.G w y) : Rp.rep (S.new p (.tup [u, w]) hp).G (.ref p) (x, y) :=
  ⟨p, u, w, rfl, HS.new_at, Rp.mono (Grow.new S p _ hp).g ru, Rp.mono (Grow.new S p _ hp).g rw'⟩
theorem it_enum {xs : List α} {p tpos : Pos} {elts : List Expr} {kk : Nat} (hm : X.mg "enumerate" = none) (h : ER X e Γ S xs) (hg : Gl X "enumerate" := by rfl) (hs : starEach [e] X.env = [(false, eval e X.env)] := by rfl) :
    IT X (.Tuple elts kk tpos) (.Call (.Name "enumerate" p) [e] [] pos) Γ S (enumI xs) :=
  ⟨_, pi_enum hg hm (pa_cons pe_w pa_nil hs) hs, fun σ hσ S1 g R k => h σ hσ S1 g _ fun S2 v g2 ⟨q, vs, e1, e2, r⟩ => ⟨q, vs, by rw [e1], SqL.of (S2.le _ _ e2), k S2 _ g2
    { go := fun i S s hi => by
        rw [enumI_len] at hi
        obtain ⟨v, e, _⟩ := r.get (List.getElem?_eq_getElem hi)
        exact ⟨vs, v, SqL.of (S.le _ _ (s _ _ e2)), e⟩
      yld := fun i S v H' s hi ⟨T, u, ev, hT, eH, q⟩ => by
        have e3 := q vs (SqL.of (S.le _ _ (s _ _ e2)))
        obtain ⟨x, e4, r4⟩ := r.got e3
        subst ev
        exact ⟨S.new T _ hT, eH.symm, .new S T _ hT, _, enumI_get e4, rep_pair_new hT rfl (Rp.mono s r4)⟩
      stop := fun i S s hi => ⟨vs, SqL.of (S.le _ _ (s _ _ e2)), by rw [r.len, ← enumI_len]; exact hi⟩ }⟩⟩
theorem it_zip {xs : List α} {ys : List β} {p tpos : Pos} {elts : List Expr} {kk : Nat} (hm : X.mg "zip" = none) (ha : ER X a Γ S xs) (hb : ER X b Γ S ys) (hg : Gl X "zip" := by rfl)
    (hs : starEach [a, b] X.env = (false, eval a X.env) :: starEach [b] X.env := by rfl) (hpl : (backTo pos (starEach [b] X.env)).any (·.1) = false := by rfl) (hs2 : starEach [b] X.env = [(false, eval b X.env)] := by rfl) :
    IT X (.Tuple elts kk tpos) (.Call (.Name "zip" p) [a, b] [] pos) Γ S (xs.zip ys) :=
  ⟨_, pi_zip hg hm (pa_cons pe_w (pa_cons pe_w pa_nil hs2) hs) hs hpl, fun σ hσ S1 g R k => ha σ hσ S1 g _ fun S2 u g2 ru => hb σ hσ S2 (g.trans g2) _ fun S3 v g3 ⟨q', ws, f1, f2, r'⟩ => by
    obtain ⟨q, vs, e1, e2, r⟩ := Rp.mono g3.g ru
    refine ⟨q, q', vs, ws, by rw [e1, f1], SqL.of (S3.le _ _ e2), SqL.of (S3.le _ _ f2), k S3 _ (g2.trans g3) ⟨fun i S s hi => ?_, fun i S v H' s hi ⟨T, u1, w1, ev, hT, eH, q1, q2⟩ => ?_, fun i S s hi => ?_⟩⟩
    · rw [List.length_zip] at hi
      obtain ⟨v1, h1, _⟩ := r.get (List.getElem?_eq_getElem (show i < xs.length by omega))
      obtain ⟨v2, h2, _⟩ := r'.get (List.getElem?_eq_getElem (show i < ys.length by omega))
      exact ⟨vs, ws, v1, v2, SqL.of (S.le _ _ (s _ _ e2)), SqL.of (S.le _ _ (s _ _ f2)), h1, h2⟩
    · obtain ⟨x, e4, r4⟩ := r.got (q1 vs (SqL.of (S.le _ _ (s _ _ e2))))
      obtain ⟨y, e5, r5⟩ := r'.got (q2 ws (SqL.of (S.le _ _ (s _ _ f2))))
      subst ev
      exact ⟨S.new T _ hT, eH.symm, .new S T _ hT, (x, y), List.getElem?_zip_eq_some.mpr ⟨e4, e5⟩, rep_pair_new hT (Rp.mono s r4) (Rp.mono s r5)⟩
    · rw [List.length_zip] at hi
      exact ⟨vs, ws, SqL.of (S.le _ _ (s _ _ e2)), SqL.of (S.le _ _ (s _ _ f2)), by rw [r.len, r'.len]; omega⟩⟩
/-- a text, sign by sign -/
def signs (s : Str) : List Str := s.cps.toList.map fun c => ⟨#[c]⟩
theorem it_str {s : Str} (h : ER X e Γ S s) : IT X tg e Γ S (signs s) :=
  ⟨_, pi_str pe_w, fun σ hσ S1 g R k => h σ hσ S1 g _ fun S2 v g2 r => ⟨s, r, k S2 _ g2
    { go := fun i S q hi => by
        unfold signs at hi
        rw [List.length_map, Array.length_toList] at hi
        exact hi
      yld := fun i S v H' q hi ⟨eH, c, hc, ev⟩ => ⟨S, eH.symm, .refl _, ⟨#[c]⟩, by
        unfold signs
        rw [List.getElem?_map, Array.getElem?_toList, hc]
        rfl, ev⟩
      stop := fun i S q hi => by
        unfold signs at hi
        rw [List.length_map, Array.length_toList] at hi
        exact hi }⟩⟩

/-! ### targets -/
def BG (X : Cx) (tg : Expr) (f : Gm → α → Gm) : Prop :=
  ∃ t : TG, PG X tg t ∧ ∀ (σ : L2.St) (Γ : Gm) (S : HS) (v : V) (x : α), Slots S.G σ Γ → Rp.rep S.G v x → ∀ Q : L2.St → Hp → Prop, (∀ σ', Slots S.G σ' (f Γ x) → Q σ' S.H) → t v σ S.H Q
theorem bg_name (i : Nat) {nm : Str} (hN : X.N.Nodup) (hi : X.N[i]? = some nm := by rfl) (hx : Loc X.env.scope nm := by first | exact Or.inl rfl | exact Or.inr rfl)
    (hf : X.fn nm = true ∨ X.env.scope.names.lookup nm = some .local := by first | exact .inl rfl | exact .inr rfl) : BG X (.Name nm pos) (fun Γ (x : α) => Γ.set i (some ⟨x⟩)) :=
  ⟨_, pg_name hN hi hx hf, fun σ Γ S v x hσ r Q k => k _ (hσ.set i (t := ⟨x⟩) r)⟩
theorem bg_pair {f : Gm → α → Gm} {g : Gm → β → Gm} {kk : Nat} (hc : X.calm = true) (h1 : BG X a f) (h2 : BG X b g)
    (hs : (assignEach [a, b] X.env).map (·.2) = assign a X.env :: (assignEach [b] X.env).map (·.2) := by rfl) (hs2 : (assignEach [b] X.env).map (·.2) = [assign b X.env] := by rfl)
    (hn : (assignEach [a, b] X.env).length = 2 := by rfl) (hst : (assignEach [a, b] X.env).findIdx? (·.1) = none := by rfl) : BG X (.Tuple [a, b] kk pos) (fun Γ (x : α × β) => g (f Γ x.1) x.2) := by
  obtain ⟨t, ht, k1⟩ := h1
  obtain ⟨u, hu, k2⟩ := h2
  refine ⟨_, pg_tup hc (pgs_cons ht (pgs_cons hu pgs_nil hs2) hs) hn hst, fun σ Γ S v x hσ ⟨p, v1, v2, e1, e2, r1, r2⟩ Q k => ⟨p, _, e1, SqT.of (S.le _ _ e2), rfl, v1, [v2], rfl, ?_⟩⟩
  exact k1 σ Γ S v1 x.1 hσ r1 _ fun σ' h' => ⟨v2, [], rfl, k2 σ' _ S v2 x.2 h' r2 _ fun σ2 h2 => ⟨rfl, k σ2 h2⟩⟩

/-! ### statements -/
variable {D : Ends} {rest : List Stmt}
theorem SB.wk {sts : List Stmt} {Γ' : Gm} (w : Weak Γ' Γ) (h : SB X sts D Γ' S) : SB X sts D Γ S := fun σ hσ => h σ (hσ.wk w)
/-- more is known -/
theorem SB.fix {sts : List Stmt} {S' : HS} (e : S'.H = S.H) (hs : Same S.G S'.G) (h : SB X sts D Γ S') : SB X sts D Γ S := fun σ hσ => by
  rw [← e]
  exact h σ (hσ.mono hs)
theorem s_asgV {P : α → Prop} {f : Gm → α → Gm} (h : EV X e Γ S P) (hg : BG X tg f) (k : ∀ S1 y, Grow S S1 → P y → SB X rest D (f Γ y) S1)
    (hs : swapsWithSole [tg] e pos.line X.env = pure false := by rfl) (hw : swappedStores [tg] e X.env = pure none := by rfl) (h1 : (assignEach [tg] X.env).map (·.2) = [assign tg X.env] := by rfl) : SB X (.Assign [tg] e pos :: rest) D Γ S := fun σ hσ => by
  obtain ⟨t, ht, kt⟩ := hg
  exact w_cons (w_ps (ps_asg pe_w ht hs hw h1) (h σ hσ S (.refl _) _ fun S2 v y g2 r p => kt σ Γ S2 v y (hσ.mono g2.g) r _ fun σ' h' => k S2 y g2 p σ' h'))
theorem s_asg {f : Gm → α → Gm} (h : ER X e Γ S x) (hg : BG X tg f) (k : ∀ S1, Grow S S1 → SB X rest D (f Γ x) S1)
    (hs : swapsWithSole [tg] e pos.line X.env = pure false := by rfl) (hw : swappedStores [tg] e X.env = pure none := by rfl) (h1 : (assignEach [tg] X.env).map (·.2) = [assign tg X.env] := by rfl) : SB X (.Assign [tg] e pos :: rest) D Γ S :=
  s_asgV (pos := pos) h.ev hg (fun S1 y g e => e ▸ k S1 g) hs hw h1
/-- name = e -/
theorem s_setV (i : Nat) {nm : Str} {P : α → Prop} {pos' : Pos} (hN : X.N.Nodup) (h : EV X e Γ S P) (k : ∀ S1 y, Grow S S1 → P y → SB X rest D (Γ.set i (some ⟨y⟩)) S1)
    (hi : X.N[i]? = some nm := by rfl) (hx : Loc X.env.scope nm := by first | exact Or.inl rfl | exact Or.inr rfl) (hs : swapsWith e (some (.Name nm pos')) pos.line X.env = pure false := by rfl)
    (hf : X.fn nm = true ∨ X.env.scope.names.lookup nm = some .local := by first | exact .inl rfl | exact .inr rfl) : SB X (.Assign [.Name nm pos'] e pos :: rest) D Γ S := fun σ hσ =>
  w_cons (w_ps (ps_set hN hi hx pe_w hs hf) (h σ hσ S (.refl _) _ fun S2 v y g2 r p => k S2 y g2 p _ ((hσ.mono g2.g).set i (t := ⟨y⟩) r)))
theorem s_set (i : Nat) {nm : Str} {pos' : Pos} (hN : X.N.Nodup) (h : ER X e Γ S x) (k : ∀ S1, Grow S S1 → SB X rest D (Γ.set i (some ⟨x⟩)) S1)
    (hi : X.N[i]? = some nm := by rfl) (hx : Loc X.env.scope nm := by first | exact Or.inl rfl | exact Or.inr rfl) (hs : swapsWith e (some (.Name nm pos')) pos.line X.env = pure false := by rfl)
    (hf : X.fn nm = true ∨ X.env.scope.names.lookup nm = some .local := by first | exact .inl rfl | exact .inr rfl) : SB X (.Assign [.Name nm pos'] e pos :: rest) D Γ S :=
  s_setV i hN h.ev (fun S1 y g e => e ▸ k S1 g) hi hx hs hf
theorem s_retV {P : α → Prop} (h : EV X e Γ S P) (k : ∀ S1 v y, Grow S S1 → Rp.rep S1.G v y → P y → D.rt v S1.H) : SB X (.Return (some e) pos :: rest) D Γ S := fun σ hσ =>
  w_cons (w_ps (ps_ret pe_w) (h σ hσ S (.refl _) _ fun S2 v y g2 r p => k S2 v y g2 r p))
theorem s_ret (h : ER X e Γ S x) (k : ∀ S1 v, Grow S S1 → Rp.rep S1.G v x → D.rt v S1.H) : SB X (.Return (some e) pos :: rest) D Γ S := s_retV h.ev fun S1 v y g r e => k S1 v g (e ▸ r)
theorem s_if {c : Expr} {body els : List Stmt} {t : Bool} (h : TR X c Γ S t) (h1 : t = true → ∀ S1, Grow S S1 → SB X body { D with nx := fun σ' H' => wB X rest D σ' H' } Γ S1)
    (h2 : t = false → ∀ S1, Grow S S1 → SB X els { D with nx := fun σ' H' => wB X rest D σ' H' } Γ S1) : SB X (.If c body els pos :: rest) D Γ S := fun σ hσ =>
  w_cons (w_ps (ps_if pt_w pss_w pss_w) (h σ hσ S (.refl _) _ fun S2 g2 => by
    cases t with
    | true => exact iteT (h1 rfl S2 g2 σ (hσ.mono g2.g))
    | false => exact iteF (h2 rfl S2 g2 σ (hσ.mono g2.g))))
theorem s_nil (h : ∀ σ, Slots S.G σ Γ → D.nx σ S.H) : SB X [] D Γ S := fun σ hσ => w_nil (h σ hσ)
/-- behind an if's branch -/
theorem s_end {rt : VK} {bk ct : L2.St → Hp → Prop} (h : SB X rest D Γ S) : SB X [] ⟨fun σ' H' => wB X rest D σ' H', rt, bk, ct⟩ Γ S := fun σ hσ => w_nil (h σ hσ)
theorem s_drop (h : EV X e Γ S (fun _ : α => True)) (k : ∀ S1, Grow S S1 → SB X rest D Γ S1) (hs : swapsWith e none pos.line X.env = pure false := by rfl) : SB X (.Expr e pos :: rest) D Γ S := fun σ hσ =>
  w_cons (w_ps (ps_expr pe_w hs) (h σ hσ S (.refl _) _ fun S2 v y g2 r _ => k S2 g2 σ (hσ.mono g2.g)))
theorem s_aug (i : Nat) {nm : Str} {pos' : Pos} {n m : Int} (hN : X.N.Nodup) (hΓ : Γ[i]? = some (some ⟨n⟩)) (h : ER X e Γ S m) (k : ∀ S1, Grow S S1 → SB X rest D (Γ.set i (some ⟨n + m⟩)) S1)
    (hi : X.N[i]? = some nm := by rfl) (hx : Loc X.env.scope nm := by first | exact Or.inl rfl | exact Or.inr rfl) (hf : X.fn nm = true ∨ X.env.scope.names.lookup nm = some .local := by first | exact .inl rfl | exact .inr rfl) :
    SB X (.AugAssign (.Name nm pos') .Add e pos :: rest) D Γ S := fun σ hσ => by
  obtain ⟨v, e1, r⟩ := hσ.at_ i _ hΓ
  refine w_cons (w_ps (ps_aug hN hi hx pe_w ip_add hf) ⟨v, e1, h σ hσ S (.refl _) _ fun S2 u g2 ru => ⟨n, m, r, ru, ?_⟩⟩)
  exact k S2 g2 _ ((hσ.mono g2.g).set i (t := ⟨n + m⟩) rfl)
/-- what a turn is to reach -/
def NX (P : Gm → HS → Prop) : L2.St → Hp → Prop := fun σ H => ∃ Γ S, S.H = H ∧ Slots S.G σ Γ ∧ P Γ S
theorem s_next {P : Gm → HS → Prop} {rt : VK} {bk ct : L2.St → Hp → Prop} {Γ' : Gm} (w : Weak Γ' Γ) (h : P Γ' S) : SB X [] ⟨NX P, rt, bk, ct⟩ Γ S := fun σ hσ => w_nil ⟨Γ', S, rfl, hσ.wk w, h⟩
theorem s_cont {P : Gm → HS → Prop} {rt : VK} {nx bk : L2.St → Hp → Prop} {Γ' : Gm} (w : Weak Γ' Γ) (h : P Γ' S) : SB X (.Continue pos :: rest) ⟨nx, rt, bk, NX P⟩ Γ S := fun σ hσ =>
  w_cons (w_ps ps_continue (show NX P σ S.H from ⟨Γ', S, rfl, hσ.wk w, h⟩))
theorem s_break {rest2 : List Stmt} {rt : VK} {nx ct : L2.St → Hp → Prop} (h : SB X rest2 D Γ S) : SB X (.Break pos :: rest) ⟨nx, rt, fun σ' H' => wB X rest2 D σ' H', ct⟩ Γ S := fun σ hσ => w_cons (w_ps ps_break (h σ hσ))
theorem s_pass (h : SB X rest D Γ S) : SB X (.Pass pos :: rest) D Γ S := fun σ hσ => w_cons (w_ps ps_pass (h σ hσ))
/-- for -/
theorem s_for {iter : Expr} {body : List Stmt} {xs : List α} {f : Gm → α → Gm} (hp : PassesOwn (model X.prog X.w) X.A X.env X.xe) (hc : X.calm = true) (hi : IT X tg iter Γ S xs) (hg : BG X tg f)
    (k : ∀ S1, Grow S S1 → ∃ P : List α → Gm → HS → Prop, P xs Γ S1 ∧ (∀ r Γ' S', P r Γ' S' → Same S1.G S'.G) ∧
      (∀ (pre : List α) x r Γ' S', xs = pre ++ x :: r → P (x :: r) Γ' S' → ∀ S2, Grow S' S2 → SB X body { D with nx := NX (P r), ct := NX (P r), bk := fun σ' H' => wB X rest D σ' H' } (f Γ' x) S2) ∧
      (∀ Γ' S', P [] Γ' S' → SB X rest D Γ' S')) (hs : ∀ x, foldedSetIterable iter X.env x = pure x := by intro _; rfl) : SB X (.For tg iter body [] pos :: rest) D Γ S := fun σ hσ => by
  obtain ⟨wi, hwi, ki⟩ := hi
  obtain ⟨t, ht, kt⟩ := hg
  refine w_cons (w_ps (ps_for hp hc hwi ht pss_w hs) (ki σ hσ S (.refl _) _ fun S1 J g1 Y => ?_))
  obtain ⟨P, h0, hst, turn, done⟩ := k S1 g1
  refine ⟨fun i m σ' H' => m = xs.length - i ∧ i ≤ xs.length ∧ NX (P (xs.drop i)) σ' H', ⟨xs.length, by rw [Nat.sub_zero], Nat.zero_le _, Γ, S1, rfl, hσ.mono g1.g, h0⟩, ?_⟩
  rintro i m σ' H' ⟨rfl, hi, Γ', S', rfl, hσ', p⟩
  have hsm := hst _ _ _ p
  by_cases hlt : i < xs.length
  · refine .inr ⟨Y.go i S' hsm hlt, NX (P (xs.drop (i + 1))), fun σ2 H2 q => ⟨xs.length - (i + 1), by omega, rfl, hlt, q⟩, fun v H2 y => ?_⟩
    obtain ⟨S2, rfl, g2, x, hx, r⟩ := Y.yld i S' v H2 hsm hlt y
    have ed : xs.drop i = x :: xs.drop (i + 1) := by
      rw [List.drop_eq_getElem_cons hlt]
      congr 1
      exact Option.some.inj ((List.getElem?_eq_getElem hlt).symm.trans hx)
    rw [ed] at p
    refine kt σ' Γ' S2 v x (hσ'.mono g2.g) r _ fun σ3 h3 => ?_
    exact turn (xs.take i) x (xs.drop (i + 1)) Γ' S' (by rw [← ed, List.take_append_drop]) p S2 g2 σ3 h3
  · have e : i = xs.length := by omega
    subst e
    rw [List.drop_length] at p
    exact .inl ⟨Y.stop _ S' hsm (Nat.le_refl _), done Γ' S' p σ' hσ'⟩
/-- while -/
theorem s_while {c : Expr} {body : List Stmt} (hp : PassesOwn (model X.prog X.w) X.A X.env X.xe) (P : Nat → Gm → HS → Prop) (m0 : Nat) (h0 : P m0 Γ S)
    (k : ∀ m Γ' S', P m Γ' S' → ∃ t, TR X c Γ' S' t ∧ (t = true → ∀ S2, Grow S' S2 → SB X body { D with nx := NX (fun Γ3 S3 => ∃ m', m' < m ∧ P m' Γ3 S3), ct := NX (fun Γ3 S3 => ∃ m', m' < m ∧ P m' Γ3 S3), bk := fun σ' H' => wB X rest D σ' H' } Γ' S2) ∧
      (t = false → ∀ S2, Grow S' S2 → SB X rest D Γ' S2)) : SB X (.While c body [] pos :: rest) D Γ S := fun σ hσ => by
  refine w_cons (w_ps (ps_while hp pt_w pss_w) ⟨fun m => NX (P m), ⟨m0, Γ, S, rfl, hσ, h0⟩, ?_⟩)
  rintro m σ' H' ⟨Γ', S', rfl, hσ', p⟩
  obtain ⟨t, ht, k1, k2⟩ := k m Γ' S' p
  refine ht σ' hσ' S' (.refl _) _ fun S2 g2 => ?_
  cases t with
  | true =>
    refine iteT ⟨NX (fun Γ3 S3 => ∃ m', m' < m ∧ P m' Γ3 S3), fun σ3 H3 ⟨Γ3, S3, e3, h3, m', hm, p3⟩ => ⟨m', hm, Γ3, S3, e3, h3, p3⟩, ?_⟩
    exact k1 rfl S2 g2 σ' (hσ'.mono g2.g)
  | false => exact iteF (k2 rfl S2 g2 σ' (hσ'.mono g2.g))
end
end Fl

set_option Elab.async false
set_option linter.all false
set_option maxRecDepth 100000
set_option maxHeartbeats 4000000
namespace Fl
open PySem PySem.Spec PyProof.Rows L2
section
variable {α β γ : Type} [Rp α] [Rp β] [Rp γ] {X : Cx} {tg e a b c d : Expr} {Γ : Gm} {S : HS} {x : α} {y : β} {pos : Pos} {es : List Expr} {i j : Int}
/-! ### subscripts -/
theorem atI_get {δ : Type} {xs : List δ} {i : Int} {v : δ} (h0 : 0 ≤ i) (h : xs[i.toNat]? = some v) : atI xs i = some v := by
  have e : i = ((i.toNat : Nat) : Int) := by omega
  rw [e]
  exact atI_nat h
theorem er_ix {xs : List α} (ha : ER X a Γ S xs) (hb : ER X b Γ S i) (h0 : 0 ≤ i) (h : xs[i.toNat]? = some x) (hs : PlainIx b := by exact fun _ _ => rfl) : ER X (.Subscript a b pos) Γ S x :=
  fun σ hσ S1 g Q k => w_pe (pe_ix ix_list pe_w pe_w hs) (ha σ hσ S1 g _ fun S2 u g2 ru => hb σ hσ S2 (g.trans g2) _ fun S3 w g3 rb => by
    obtain ⟨p, vs, e1, e2, r⟩ := Rp.mono g3.g ru
    obtain ⟨v, hv, rv⟩ := r.get h
    exact ⟨p, vs, i, v, e1, rb, SqL.of (S3.le _ _ e2), atI_get h0 hv, k S3 v (g2.trans g3) rv⟩)
theorem atI_lst {δ : Type} {xs : List δ} {v : δ} (h : xs.getLast? = some v) : atI xs (-1) = some v := by
  obtain ⟨ys, rfl⟩ := List.getLast?_eq_some_iff.mp h
  exact atI_last ys v
theorem reps.last {G : Hp} {vs : List V} {xs : List α} (r : reps G vs xs) (h : xs.getLast? = some x) : ∃ v, vs.getLast? = some v ∧ Rp.rep G v x := by
  rw [List.getLast?_eq_getElem?] at h
  obtain ⟨v, h1, h2⟩ := r.get h
  exact ⟨v, by rw [List.getLast?_eq_getElem?, r.len]; exact h1, h2⟩
theorem er_ixL {xs : List α} (ha : ER X a Γ S xs) (hb : ER X b Γ S (-1 : Int)) (h : xs.getLast? = some x) (hs : PlainIx b := by exact fun _ _ => rfl) : ER X (.Subscript a b pos) Γ S x :=
  fun σ hσ S1 g Q k => w_pe (pe_ix ix_list pe_w pe_w hs) (ha σ hσ S1 g _ fun S2 u g2 ru => hb σ hσ S2 (g.trans g2) _ fun S3 w g3 rb => by
    obtain ⟨p, vs, e1, e2, r⟩ := Rp.mono g3.g ru
    obtain ⟨v, hv, rv⟩ := r.last h
    exact ⟨p, vs, -1, v, e1, rb, SqL.of (S3.le _ _ e2), atI_lst hv, k S3 v (g2.trans g3) rv⟩)
theorem er_fst {z : α × β} {n} {p2 : Pos} (ha : ER X a Γ S z) : ER X (.Subscript a (.Constant (.int 0) n p2) pos) Γ S z.1 :=
  fun σ hσ S1 g Q k => w_pe (pe_ix ix_tup pe_w pe_int (fun _ _ => rfl)) (ha σ hσ S1 g _ fun S2 u g2 ⟨p, v1, v2, e1, e2, r1, r2⟩ => ⟨p, _, 0, v1, e1, rfl, SqT.of (S2.le _ _ e2), rfl, k S2 v1 g2 r1⟩)
theorem er_snd {z : α × β} {n} {p2 : Pos} (ha : ER X a Γ S z) : ER X (.Subscript a (.Constant (.int 1) n p2) pos) Γ S z.2 :=
  fun σ hσ S1 g Q k => w_pe (pe_ix ix_tup pe_w pe_int (fun _ _ => rfl)) (ha σ hσ S1 g _ fun S2 u g2 ⟨p, v1, v2, e1, e2, r1, r2⟩ => ⟨p, _, 1, v2, e1, rfl, SqT.of (S2.le _ _ e2), rfl, k S2 v2 g2 r2⟩)
theorem er_ixS {s : Str} {ch : Nat} (ha : ER X a Γ S s) (hb : ER X b Γ S i) (hz : s.length ≤ sizeLine) (h0 : 0 ≤ i) (h : s.cps.toList[i.toNat]? = some ch) (hs : PlainIx b := by exact fun _ _ => rfl) : ER X (.Subscript a b pos) Γ S (⟨#[ch]⟩ : Str) :=
  fun σ hσ S1 g Q k => w_pe (pe_ix ix_str pe_w pe_w hs) (ha σ hσ S1 g _ fun S2 u g2 ru => hb σ hσ S2 (g.trans g2) _ fun S3 w g3 rb => ⟨s, i, ch, ru, rb, hz, atI_get h0 h, k S3 _ (g2.trans g3) rfl⟩)
/-- xs[lo:hi] -/
def cutL {δ : Type} (xs : List δ) (lo hi : Option Int) : List δ := (xs.drop (HT.sIx xs.length 0 lo)).take (HT.sIx xs.length xs.length hi - HT.sIx xs.length 0 lo)
theorem reps.cut {G : Hp} {vs : List V} {xs : List α} (r : reps G vs xs) (lo hi : Option Int) : reps G (cutV vs lo hi) (cutL xs lo hi) := by
  unfold cutV cutL
  rw [r.len]
  exact (r.drop _).take _
theorem er_sl_from {xs : List α} {p2 : Pos} (ha : ER X a Γ S xs) (hb : ER X b Γ S i) : ER X (.Subscript a (.Slice (some b) none none p2) pos) Γ S (cutL xs (some i) none) :=
  fun σ hσ S1 g Q k => w_pe (pe_slice sl_list pe_w (po_some pe_w) po_none) (ha σ hσ S1 g _ fun S2 u g2 ru => hb σ hσ S2 (g.trans g2) _ fun S3 w g3 rb => by
    obtain ⟨p, vs, e1, e2, r⟩ := Rp.mono g3.g ru
    exact ⟨i, rb, p, vs, e1, SqL.of (S3.le _ _ e2), fun q hq => k (S3.new q _ hq) _ ((g2.trans g3).trans (.new S3 q _ hq)) ⟨q, _, rfl, HS.new_at, (r.cut _ _).mono (Grow.new S3 q _ hq).g⟩⟩)
theorem er_sl_to {xs : List α} {p2 : Pos} (ha : ER X a Γ S xs) (hb : ER X b Γ S i) : ER X (.Subscript a (.Slice none (some b) none p2) pos) Γ S (cutL xs none (some i)) :=
  fun σ hσ S1 g Q k => w_pe (pe_slice sl_list pe_w po_none (po_some pe_w)) (ha σ hσ S1 g _ fun S2 u g2 ru => hb σ hσ S2 (g.trans g2) _ fun S3 w g3 rb => by
    obtain ⟨p, vs, e1, e2, r⟩ := Rp.mono g3.g ru
    exact ⟨i, rb, p, vs, e1, SqL.of (S3.le _ _ e2), fun q hq => k (S3.new q _ hq) _ ((g2.trans g3).trans (.new S3 q _ hq)) ⟨q, _, rfl, HS.new_at, (r.cut _ _).mono (Grow.new S3 q _ hq).g⟩⟩)
theorem er_sl {xs : List α} {p2 : Pos} (ha : ER X a Γ S xs) (hb : ER X b Γ S i) (hc : ER X c Γ S j) : ER X (.Subscript a (.Slice (some b) (some c) none p2) pos) Γ S (cutL xs (some i) (some j)) :=
  fun σ hσ S1 g Q k => w_pe (pe_slice sl_list pe_w (po_some pe_w) (po_some pe_w)) (ha σ hσ S1 g _ fun S2 u g2 ru => hb σ hσ S2 (g.trans g2) _ fun S3 w g3 rb => ⟨i, rb, hc σ hσ S3 ((g.trans g2).trans g3) _ fun S4 w4 g4 r4 => by
    obtain ⟨p, vs, e1, e2, r⟩ := Rp.mono (g3.trans g4).g ru
    exact ⟨j, r4, p, vs, e1, SqL.of (S4.le _ _ e2), fun q hq => k (S4.new q _ hq) _ (((g2.trans g3).trans g4).trans (.new S4 q _ hq)) ⟨q, _, rfl, HS.new_at, (r.cut _ _).mono (Grow.new S4 q _ hq).g⟩⟩⟩)

/-! ### built-ins -/
theorem er_b1 {id : String} {nm : Str} {r : List V → Hp → VK → Prop} {p : Pos} {z : β} (hc : CallR X (.builtin id) r) (hm : X.mg nm = none) (hv : bootBuiltins nm = some (.builtin id)) (ha : ER X a Γ S x)
    (hr : ∀ (S2 : HS) (v : V) (Q : VK), Rp.rep S2.G v x → (∀ S3 w, Grow S2 S3 → Rp.rep S3.G w z → Q w S3.H) → r [v] S2.H Q) (hn : nm ≠ "__name__" := by decide) (hdb : (nm == ("__debug__" : Str)) = false := by decide)
    (hg : Gl X nm := by rfl) (hs : starEach [a] X.env = [(false, eval a X.env)] := by rfl) : ER X (.Call (.Name nm p) [a] [] pos) Γ S z := fun σ hσ S1 g Q k =>
  w_pe (pe_callB hc hg hm hv (pa_cons pe_w pa_nil hs) hn hdb hs) (ha σ hσ S1 g _ fun S2 v g2 rv => hr S2 v Q rv fun S3 w g3 rw' => k S3 w (g2.trans g3) rw')
theorem er_t1 {T : String} {nm : Str} {r : List V → Hp → VK → Prop} {p : Pos} {z : β} (hc : CallR X (.type T) r) (hm : X.mg nm = none) (hv : bootBuiltins nm = some (.type T)) (ha : ER X a Γ S x)
    (hr : ∀ (S2 : HS) (v : V) (Q : VK), Rp.rep S2.G v x → (∀ S3 w, Grow S2 S3 → Rp.rep S3.G w z → Q w S3.H) → r [v] S2.H Q) (hn : nm ≠ "__name__" := by decide) (hdb : (nm == ("__debug__" : Str)) = false := by decide)
    (hg : Gl X nm := by rfl) (hs : starEach [a] X.env = [(false, eval a X.env)] := by rfl) : ER X (.Call (.Name nm p) [a] [] pos) Γ S z := fun σ hσ S1 g Q k =>
  w_pe (pe_callTy hc hg hm hv (pa_cons pe_w pa_nil hs) hn hdb hs) (ha σ hσ S1 g _ fun S2 v g2 rv => hr S2 v Q rv fun S3 w g3 rw' => k S3 w (g2.trans g3) rw')
theorem er_len {xs : List α} {p : Pos} (hm : X.mg "len" = none) (ha : ER X a Γ S xs) (hg : Gl X "len" := by rfl) (hs : starEach [a] X.env = [(false, eval a X.env)] := by rfl) : ER X (.Call (.Name "len" p) [a] [] pos) Γ S (xs.length : Int) :=
  er_b1 call_len_seq hm PySem.boot_len ha (fun S2 v Q ⟨q, vs, e1, e2, r⟩ k => ⟨q, vs, by rw [e1], .inl (SqL.of (S2.le _ _ e2)), k S2 _ (.refl _) (by rw [r.len]; rfl)⟩) (by decide) (by decide) hg hs
theorem er_lens {s : Str} {p : Pos} (hm : X.mg "len" = none) (ha : ER X a Γ S s) (hz : s.length ≤ sizeLine) (hg : Gl X "len" := by rfl) (hs : starEach [a] X.env = [(false, eval a X.env)] := by rfl) : ER X (.Call (.Name "len" p) [a] [] pos) Γ S (s.length : Int) :=
  er_b1 call_len_str hm PySem.boot_len ha (fun S2 v Q r k => ⟨s, by rw [show v = V.str s from r], hz, k S2 _ (.refl _) rfl⟩) (by decide) (by decide) hg hs
/-- sorted, of whole numbers -/
def sortI (xs : List Int) : List Int := xs.mergeSort (fun a b => decide (a ≤ b))
theorem sortI_perm (xs : List Int) : (sortI xs).Perm xs := List.mergeSort_perm xs _
theorem sortI_sorted (xs : List Int) : (sortI xs).Pairwise (· ≤ ·) := by
  have h := List.pairwise_mergeSort (le := fun a b : Int => decide (a ≤ b)) (fun a b c h1 h2 => by simp at *; omega) (fun a b => by simp; omega) xs
  exact h.imp fun h => by simpa using h
theorem sorted_one : ∀ {xs ys : List Int}, xs.Perm ys → xs.Pairwise (· ≤ ·) → ys.Pairwise (· ≤ ·) → xs = ys := fun p h1 h2 => p.eq_of_pairwise (fun a b _ _ h h' => Int.le_antisymm h h') h1 h2
theorem er_sorted {xs : List Int} {p : Pos} (hm : X.mg "sorted" = none) (ha : ER X a Γ S xs) (hg : Gl X "sorted" := by rfl) (hs : starEach [a] X.env = [(false, eval a X.env)] := by rfl) : ER X (.Call (.Name "sorted" p) [a] [] pos) Γ S (sortI xs) :=
  er_b1 cr_sortedI hm (by decide +kernel) ha (fun S2 v Q ⟨q, vs, e1, e2, r⟩ k => ⟨q, xs, by rw [e1], SqL.of (by rw [← r.int]; exact S2.le _ _ e2), fun ns' p' pm srt hp => by
    have e : ns' = sortI xs := sorted_one (pm.trans (sortI_perm xs).symm) srt (sortI_sorted xs)
    subst e
    exact k (S2.new p' _ hp) _ (.new S2 p' _ hp) ⟨p', _, rfl, HS.new_at, reps.int_of _⟩⟩) (by decide) (by decide) hg hs
theorem er_list {xs : List α} {p : Pos} (hm : X.mg "list" = none) (ha : ER X a Γ S xs) (hg : Gl X "list" := by rfl) (hs : starEach [a] X.env = [(false, eval a X.env)] := by rfl) : ER X (.Call (.Name "list" p) [a] [] pos) Γ S xs :=
  er_t1 call_list_of hm (by decide +kernel) ha (fun S2 v Q ⟨q, vs, e1, e2, r⟩ k => ⟨q, vs, by rw [e1], .inl (SqL.of (S2.le _ _ e2)), fun p' hp => k (S2.new p' _ hp) _ (.new S2 p' _ hp) ⟨p', vs, rfl, HS.new_at, r.mono (Grow.new S2 p' _ hp).g⟩⟩)
    (by decide) (by decide) hg hs
theorem er_tuple {xs : List α} {p : Pos} (hm : X.mg "tuple" = none) (ha : ER X a Γ S xs) (hg : Gl X "tuple" := by rfl) (hs : starEach [a] X.env = [(false, eval a X.env)] := by rfl) : ER X (.Call (.Name "tuple" p) [a] [] pos) Γ S (⟨xs⟩ : Tpl α) :=
  er_t1 call_tuple_of hm (by decide +kernel) ha (fun S2 v Q ⟨q, vs, e1, e2, r⟩ k => ⟨q, vs, by rw [e1], .inl ⟨SqL.of (S2.le _ _ e2), fun p' hp => k (S2.new p' _ hp) _ (.new S2 p' _ hp) ⟨p', vs, rfl, HS.new_at, r.mono (Grow.new S2 p' _ hp).g⟩⟩⟩)
    (by decide) (by decide) hg hs
theorem er_intI {p : Pos} (hm : X.mg "int" = none) (ha : ER X a Γ S i) (hg : Gl X "int" := by rfl) (hs : starEach [a] X.env = [(false, eval a X.env)] := by rfl) : ER X (.Call (.Name "int" p) [a] [] pos) Γ S i :=
  er_t1 call_int1 hm (by decide +kernel) ha (fun S2 v Q r k => .inl ⟨i, by rw [show v = V.int i from r], k S2 _ (.refl _) rfl⟩) (by decide) (by decide) hg hs
theorem er_intB {p : Pos} {t : Bool} (hm : X.mg "int" = none) (ha : ER X a Γ S t) (hg : Gl X "int" := by rfl) (hs : starEach [a] X.env = [(false, eval a X.env)] := by rfl) : ER X (.Call (.Name "int" p) [a] [] pos) Γ S (if t then 1 else 0 : Int) :=
  er_t1 call_int1 hm (by decide +kernel) ha (fun S2 v Q r k => .inr ⟨t, by rw [show v = V.bl t from r], k S2 _ (.refl _) rfl⟩) (by decide) (by decide) hg hs
theorem er_min {p : Pos} (hc : X.calm = true) (hm : X.mg "min" = none) (ha : ER X a Γ S i) (hb : ER X b Γ S j) (hg : Gl X "min" := by rfl) (hs : starEach [a, b] X.env = (false, eval a X.env) :: starEach [b] X.env := by rfl)
    (hs2 : starEach [b] X.env = [(false, eval b X.env)] := by rfl) (hpl : (backTo pos (starEach [b] X.env)).any (·.1) = false := by rfl) : ER X (.Call (.Name "min" p) [a, b] [] pos) Γ S (if j < i then j else i) := fun σ hσ S1 g Q k =>
  w_pe (pe_callB (call_min2 hc) hg hm (by decide +kernel) (pa_cons pe_w (pa_cons pe_w pa_nil hs2) hs) (by decide) (by decide) hs hpl) (ha σ hσ S1 g _ fun S2 u g2 ru => hb σ hσ S2 (g.trans g2) _ fun S3 v g3 rv =>
    ⟨i, j, by rw [show u = V.int i from ru, show v = V.int j from rv], k S3 _ (g2.trans g3) rfl⟩)

/-! ### displays -/
theorem er_lst0 : ER X (.List [] pos) Γ S ([] : List α) := fun σ hσ S1 g Q k => w_pe (pe_lst pa_nil) ⟨Nat.zero_le _, fun p hp => k (S1.new p _ hp) _ (.new S1 p _ hp) ⟨p, [], rfl, HS.new_at, .nil⟩⟩
theorem er_lst1 (h : ER X a Γ S x) (hs : starEach [a] X.env = [(false, eval a X.env)] := by rfl) : ER X (.List [a] pos) Γ S [x] := fun σ hσ S1 g Q k =>
  w_pe (pe_lst (pa_cons pe_w pa_nil hs)) (h σ hσ S1 g _ fun S2 v g2 r => ⟨(by show 1 ≤ sizeLine; decide), fun p hp => k (S2.new p _ hp) _ (g2.trans (.new S2 p _ hp)) ⟨p, [v], rfl, HS.new_at, .cons (Rp.mono (Grow.new S2 p _ hp).g r) .nil⟩⟩)
theorem er_pair {kk : Nat} (h1 : ER X a Γ S x) (h2 : ER X b Γ S y) (hs : starEach [a, b] X.env = (false, eval a X.env) :: starEach [b] X.env := by rfl) (hs2 : starEach [b] X.env = [(false, eval b X.env)] := by rfl) : ER X (.Tuple [a, b] kk pos) Γ S (x, y) := fun σ hσ S1 g Q k =>
  w_pe (pe_tup (pa_cons pe_w (pa_cons pe_w pa_nil hs2) hs)) (h1 σ hσ S1 g _ fun S2 u g2 ru => h2 σ hσ S2 (g.trans g2) _ fun S3 v g3 rv =>
    ⟨(by show 2 ≤ sizeLine; decide), fun p hp => k (S3.new p _ hp) _ ((g2.trans g3).trans (.new S3 p _ hp)) (rep_pair_new hp (Rp.mono g3.g ru) rv)⟩)

/-! ### own functions -/
structure Cal [c : Ctx] (nm : Str) (k : Nat) (sp : Sp) : Prop where
  ex : ∃ f fd ps, FnOk PP c.w c.K c.mg c.base CX0 k f fd ps sp ∧ c.mg nm = some (.ref f) ∧ PySem.W.keepIn c.K (.ref f) = true ∧ Binds c.K fd ps []
structure MCal [c : Ctx] (C m : Str) (k : Nat) (sp : Sp) : Prop where
  ex : ∃ f fd ps, FnOk PP c.w c.K c.mg c.base CX0 k f fd ps sp ∧ Meth c.K (He.ga c.K C) m f ∧ Cls c.K (He.ga c.K C) ∧ Binds c.K fd ps []
/-- from arguments that mean a, where pre a: a value that means some y with post a y; nothing else changes -/
def Spc {α β : Type} [Args α] [Rp β] (pre : α → Prop) (post : α → β → Prop) : Sp := fun vs H Q _ =>
  ∃ (S : HS) (a : α), S.H = H ∧ Args.reps S.G vs a ∧ pre a ∧ ∀ (S1 : HS) (r : V) (y : β), Grow S S1 → Rp.rep S1.G r y → post a y → Q r S1.H
abbrev Spf {α β : Type} [Args α] [Rp β] (pre : α → Prop) (f : α → β) : Sp := Spc pre fun a y => y = f a
theorem fn_in [cx : Ctx] {k j : Nat} {f : Addr} {fd : FuncData} {ps : List Str} {sp : Sp} {CX : CXT} (hX : InC k X) (F : FnOk PP cx.w cx.K cx.mg cx.base CX j f fd ps sp) : FnOk X.prog X.w X.K X.mg X.base CX j f fd ps sp := by
  rw [hX.prog, hX.w, hX.K, hX.mg, hX.base]
  exact F
theorem ev_call [cx : Ctx] {δ : Type} [Args δ] {k j : Nat} {nm : Str} {p : Pos} {pre : δ → Prop} {post : δ → β → Prop} {u : δ} [hX : InC k X] (C : Cal nm j (Spc pre post)) (ha : AR X (e :: es) Γ S u) (hp : pre u) (hj : j ≤ k := by decide) (hg : Gl X nm := by rfl)
    (hdb : (nm == ("__debug__" : Str)) = false := by decide) (he : starEach (e :: es) X.env = (false, eval e X.env) :: starEach es X.env := by rfl) (hpl : (backTo pos (starEach es X.env)).any (·.1) = false := by rfl) :
    EV X (.Call (.Name nm p) (e :: es) [] pos) Γ S (post u) := fun σ hσ S1 g Q kk => by
  obtain ⟨f, fd, ps, F, hm, hk, hb⟩ := C.ex
  refine w_pe (pe_call (fn_in hX F) (hX.room.mono hj) hg (by rw [hX.mg]; exact hm) (by rw [hX.K]; exact hk) (by rw [hX.K]; exact hb) .nil pass0 pa_w hdb he hpl) (ha σ hσ S1 g _ fun S2 vs g2 r => ?_)
  exact ⟨S2, u, rfl, by rw [List.append_nil]; exact r, hp, fun S3 v y g3 r3 p3 => kk S3 v y (g2.trans g3) r3 p3⟩
theorem er_call [cx : Ctx] {δ : Type} [Args δ] {k j : Nat} {nm : Str} {p : Pos} {pre : δ → Prop} {f : δ → β} {u : δ} [hX : InC k X] (C : Cal nm j (Spf pre f)) (ha : AR X (e :: es) Γ S u) (hp : pre u) (hj : j ≤ k := by decide) (hg : Gl X nm := by rfl)
    (hdb : (nm == ("__debug__" : Str)) = false := by decide) (he : starEach (e :: es) X.env = (false, eval e X.env) :: starEach es X.env := by rfl) (hpl : (backTo pos (starEach es X.env)).any (·.1) = false := by rfl) :
    ER X (.Call (.Name nm p) (e :: es) [] pos) Γ S (f u) := (ev_call C ha hp hj hg hdb he hpl).er

/-! ### own objects -/
inductive fldsR (H : Hp) : List (Str × V) → List (Str × TV) → Prop
  | nil : fldsR H [] []
  | cons {n : Str} {v : V} {t : TV} {fs : List (Str × V)} {fl : List (Str × TV)} : t.inst.rep H v t.x → fldsR H fs fl → fldsR H ((n, v) :: fs) ((n, t) :: fl)
theorem fldsR.mono {H H' : Hp} (s : Same H H') : ∀ {fs : List (Str × V)} {fl : List (Str × TV)}, fldsR H fs fl → fldsR H' fs fl
  | _, _, .nil => .nil
  | _, _, .cons (t := t) a r => .cons (t.inst.mono s a) (fldsR.mono s r)
theorem fldsR.look {H : Hp} {f : Str} {fs : List (Str × V)} {fl : List (Str × TV)} {t : TV} (h : fldsR H fs fl) : fl.lookup f = some t → ∃ v, fs.lookup f = some v ∧ t.inst.rep H v t.x := by
  induction h with
  | nil => intro e; simp at e
  | @cons n v u fs fl a r ih =>
    intro e
    rw [List.lookup_cons] at e ⊢
    cases h : f == n with
    | true =>
      rw [h] at e
      cases e
      exact ⟨v, rfl, a⟩
    | false =>
      rw [h] at e
      exact ih e
theorem fldsR.no {H : Hp} {f : Str} {fs : List (Str × V)} {fl : List (Str × TV)} (h : fldsR H fs fl) : fl.lookup f = none → fs.lookup f = none := by
  induction h with
  | nil => intro e; rfl
  | @cons n v u fs fl a r ih =>
    intro e
    rw [List.lookup_cons] at e ⊢
    cases h : f == n with
    | true =>
      rw [h] at e
      cases e
    | false =>
      rw [h] at e
      exact ih e
/-- an instance of the class cls with these attributes -/
def repObj [c : Ctx] (cls : Str) (fl : List (Str × TV)) (H : Hp) (v : V) : Prop := ∃ a dx fs, v = .ref a ∧ H a = some (.ins (He.ga c.K cls) dx fs) ∧ fldsR H fs fl
theorem repObj.mono [c : Ctx] {cls : Str} {fl : List (Str × TV)} {H H' : Hp} {v : V} (s : Same H H') (h : repObj cls fl H v) : repObj cls fl H' v :=
  let ⟨a, dx, fs, e1, e2, r⟩ := h
  ⟨a, dx, fs, e1, s _ _ e2, r.mono s⟩
theorem er_fld [cx : Ctx] {k : Nat} {cls f : Str} {fl : List (Str × TV)} {t : TV} [hX : InC k X] (hr : ∀ H v, Rp.rep H v x → repObj cls fl H v) (hl : fl.lookup f = some t) (hc : Cls cx.K (He.ga cx.K cls)) (hn : NoAttr cx.K (He.ga cx.K cls) f)
    (h : ER X e Γ S x) (hb : attributeBase e f X.env (eval e X.env) = eval e X.env := by rfl) : @ER t.α t.inst X (.Attribute e f pos) Γ S t.x := fun σ hσ S1 g Q k =>
  w_pe (pe_fld pe_w hb) (h σ hσ S1 g _ fun S2 v g2 r => by
    obtain ⟨a, dx, fs, e1, e2, r2⟩ := hr _ _ r
    obtain ⟨u, h1, h2⟩ := r2.look hl
    exact ⟨a, _, dx, fs, u, e1, S2.le _ _ e2, by rw [hX.K]; exact hc, by rw [hX.K]; exact hn, h1, k S2 u g2 h2⟩)
theorem ev_meth [cx : Ctx] {δ : Type} [Args δ] {k j : Nat} {C m : Str} {fl : List (Str × TV)} {apos : Pos} {pre : α × δ → Prop} {post : α × δ → β → Prop} {u : δ} {pl : Sem Bool} [hX : InC k X] (M : MCal C m j (Spc pre post)) (hr : ∀ H v, Rp.rep H v x → repObj C fl H v) (hl : fl.lookup m = none)
    (ho : ER X a Γ S x) (ha : AR X (e :: es) Γ S u) (hp : pre (x, u)) (hj : j ≤ k := by decide) (hst : starEach (e :: es) X.env = (false, eval e X.env) :: starEach es X.env := by rfl) (hpl : (backTo pos (starEach es X.env)).any (·.1) = false := by rfl)
    (ht : eval (.Call (.Attribute a m apos) (e :: es) [] pos) X.env = (do
      let ov ← eval a X.env
      standAt apos.atName
      let (f, first) ← holding [ov] (getMethod ov m pl)
      callWith pos f first (backTo pos (starEach (e :: es) X.env)) (backToKw pos (keywordEach [] X.env))) := by rfl) : EV X (.Call (.Attribute a m apos) (e :: es) [] pos) Γ S (post (x, u)) := fun σ hσ S1 g Q kk => by
  obtain ⟨f, fd, ps, F, hm, hc, hb⟩ := M.ex
  refine w_pe (pe_meth pe_w (by rw [hX.K]; exact hc) (by rw [hX.K]; exact hm) (fn_in hX F) (hX.room.mono hj) (by rw [hX.K]; exact hb) .nil pass0 pa_w hst hpl ht) (ho σ hσ S1 g _ fun S2 v g2 r => ?_)
  obtain ⟨q, dx, fs, e1, e2, r2⟩ := hr _ _ r
  refine ⟨q, dx, fs, e1, S2.le _ _ e2, r2.no hl, ha σ hσ S2 (g.trans g2) _ fun S3 vs g3 r3 => ⟨S3, (x, u), rfl, ⟨v, vs, by rw [List.append_nil], Rp.mono g3.g r, r3⟩, hp, fun S4 w y g4 r4 p4 => kk S4 w y ((g2.trans g3).trans g4) r4 p4⟩⟩
theorem ev_meth0 [cx : Ctx] {k j : Nat} {C m : Str} {fl : List (Str × TV)} {apos : Pos} {pre : α × Unit → Prop} {post : α × Unit → β → Prop} {pl : Sem Bool} [hX : InC k X] (M : MCal C m j (Spc pre post)) (hr : ∀ H v, Rp.rep H v x → repObj C fl H v) (hl : fl.lookup m = none)
    (ho : ER X a Γ S x) (hp : pre (x, ())) (hj : j ≤ k := by decide)
    (ht : eval (.Call (.Attribute a m apos) [] [] pos) X.env = (do
      let ov ← eval a X.env
      standAt apos.atName
      let (f, first) ← holding [ov] (getMethod ov m pl)
      callWith pos f first (backTo pos (starEach [] X.env)) (backToKw pos (keywordEach [] X.env))) := by rfl) : EV X (.Call (.Attribute a m apos) [] [] pos) Γ S (post (x, ())) := fun σ hσ S1 g Q kk => by
  obtain ⟨f, fd, ps, F, hm, hc, hb⟩ := M.ex
  refine w_pe (pe_meth0 pe_w (by rw [hX.K]; exact hc) (by rw [hX.K]; exact hm) (fn_in hX F) (hX.room.mono hj) (by rw [hX.K]; exact hb) .nil pass0 ht) (ho σ hσ S1 g _ fun S2 v g2 r => ?_)
  obtain ⟨q, dx, fs, e1, e2, r2⟩ := hr _ _ r
  exact ⟨q, dx, fs, e1, S2.le _ _ e2, r2.no hl, S2, (x, ()), rfl, ⟨v, [], rfl, r, rfl⟩, hp, fun S4 w y g4 r4 p4 => kk S4 w y (g2.trans g4) r4 p4⟩

/-! ### lists that change -/
/-- the list at p, which may change -/
def ML (S : HS) (p : Addr) (xs : List α) : Prop := S.G p = none ∧ ∃ vs, S.H p = some (.lst vs) ∧ reps S.G vs xs
theorem ML.up {S1 : HS} {p : Addr} {xs : List α} (h : ML S p xs) (g : Grow S S1) : ML S1 p xs := by
  obtain ⟨h1, vs, h2, r⟩ := h
  exact ⟨g.n p (by rw [h2]; exact fun z => nomatch z) h1, vs, g.h _ _ h2, r.mono g.g⟩
/-- another one changes -/
theorem ML.other {p q : Addr} {o : HO} {xs : List α} (h : ML S p xs) (hq : S.G q = none) (ne : p ≠ q) : ML (S.add q o hq) p xs := by
  obtain ⟨h1, vs, h2, r⟩ := h
  exact ⟨h1, vs, by show upd S.H q o p = _; rw [upd_ne ne]; exact h2, r⟩
theorem er_ixM {p : Addr} {xs : List α} (hm : ML S p xs) (ha : ER X a Γ S (⟨p⟩ : Adr)) (hb : ER X b Γ S i) (h0 : 0 ≤ i) (h : xs[i.toNat]? = some x) (hs : PlainIx b := by exact fun _ _ => rfl) : ER X (.Subscript a b pos) Γ S x :=
  fun σ hσ S1 g Q k => w_pe (pe_ix ix_list pe_w pe_w hs) (ha σ hσ S1 g _ fun S2 u g2 ru => hb σ hσ S2 (g.trans g2) _ fun S3 w g3 rb => by
    obtain ⟨_, vs, h2, r⟩ := (hm.up (g.trans (g2.trans g3)))
    obtain ⟨v, hv, rv⟩ := r.get h
    exact ⟨p, vs, i, v, ru, rb, SqL.of h2, atI_get h0 hv, k S3 v (g2.trans g3) rv⟩)
theorem er_ixML {p : Addr} {xs : List α} (hm : ML S p xs) (ha : ER X a Γ S (⟨p⟩ : Adr)) (hb : ER X b Γ S (-1 : Int)) (h : xs.getLast? = some x) (hs : PlainIx b := by exact fun _ _ => rfl) : ER X (.Subscript a b pos) Γ S x :=
  fun σ hσ S1 g Q k => w_pe (pe_ix ix_list pe_w pe_w hs) (ha σ hσ S1 g _ fun S2 u g2 ru => hb σ hσ S2 (g.trans g2) _ fun S3 w g3 rb => by
    obtain ⟨_, vs, h2, r⟩ := (hm.up (g.trans (g2.trans g3)))
    obtain ⟨v, hv, rv⟩ := r.last h
    exact ⟨p, vs, -1, v, ru, rb, SqL.of h2, atI_lst hv, k S3 v (g2.trans g3) rv⟩)
theorem er_lenM {xs : List α} {p : Pos} {q : Addr} (hm : X.mg "len" = none) (h : ML S q xs) (ha : ER X a Γ S (⟨q⟩ : Adr)) (hg : Gl X "len" := by rfl) (hs : starEach [a] X.env = [(false, eval a X.env)] := by rfl) : ER X (.Call (.Name "len" p) [a] [] pos) Γ S (xs.length : Int) :=
  fun σ hσ S1 g Q k => w_pe (pe_callB call_len_seq hg hm PySem.boot_len (pa_cons pe_w pa_nil hs) (by decide) (by decide) hs) (ha σ hσ S1 g _ fun S2 v g2 rv => by
    obtain ⟨_, vs, h2, r⟩ := h.up (g.trans g2)
    exact ⟨q, vs, by rw [show v = V.ref q from rv], .inl (SqL.of h2), k S2 _ g2 (by rw [r.len]; rfl)⟩)
/-- only the object at p has changed (and others are new) -/
structure Upd (S : HS) (p : Addr) (S2 : HS) : Prop where
  g : Same S.G S2.G
  h : ∀ q, q ≠ p → ∀ o, S.H q = some o → S2.H q = some o
  n : ∀ q, S.H q ≠ none → S.G q = none → S2.G q = none
theorem Grow.upd {S0 S2 : HS} {p : Addr} (gg : Grow S0 S) (h0 : S0.H p = none) (u : Upd S p S2) : Grow S0 S2 :=
  ⟨fun b o e => u.h b (ne_of_none e h0) o (gg.h b o e), gg.g.trans u.g, fun q h1 h2 => u.n q (fun z => by
    cases e : S0.H q with
    | none => exact h1 e
    | some o => rw [gg.h q o e] at z; cases z) (gg.n q h1 h2)⟩
theorem Grow.toUpd {S2 : HS} (p : Addr) (g : Grow S S2) : Upd S p S2 := ⟨g.g, fun q _ o e => g.h q o e, g.n⟩
theorem Upd.add {p : Addr} {o : HO} (h : S.G p = none) : Upd S p (S.add p o h) := ⟨Same.refl _, fun q hq u e => by show upd S.H p o q = _; rw [upd_ne hq]; exact e, fun _ _ z => z⟩
theorem Upd.after {S1 S2 : HS} {p : Addr} (g : Grow S S1) (u : Upd S1 p S2) : Upd S p S2 := ⟨g.g.trans u.g, fun q hq o e => u.h q hq o (g.h q o e), fun q h1 h2 => u.n q (fun z => by
    cases e : S.H q with
    | none => exact h1 e
    | some o => rw [g.h q o e] at z; cases z) (g.n q h1 h2)⟩
theorem Upd.trans {S1 S2 : HS} {p : Addr} (a : Upd S p S1) (b : Upd S1 p S2) (hp : S1.H p ≠ none) : Upd S p S2 := ⟨a.g.trans b.g, fun q hq o e => b.h q hq o (a.h q hq o e), fun q h1 h2 => b.n q (fun z => by
    by_cases hqp : q = p
    · subst hqp
      exact hp z
    · cases e : S.H q with
      | none => exact h1 e
      | some o => rw [a.h q hqp o e] at z; cases z) (a.n q h1 h2)⟩
theorem ML.upd {S2 : HS} {p q : Addr} {xs : List α} (h : ML S q xs) (u : Upd S p S2) (ne : q ≠ p) : ML S2 q xs := by
  obtain ⟨h1, vs, h2, r⟩ := h
  exact ⟨u.n q (by rw [h2]; exact fun z => nomatch z) h1, vs, u.h q ne _ h2, r.mono u.g⟩
theorem ML.there {p : Addr} {xs : List α} (h : ML S p xs) : S.H p ≠ none := by
  obtain ⟨_, vs, h2, _⟩ := h
  rw [h2]
  exact fun z => nomatch z
/-- a list met later is another one -/
theorem ML.ne {p q : Addr} {xs : List α} (h : ML S p xs) (hq : S.H q = none) : q ≠ p := fun z => h.there (z ▸ hq)
/-- what it holds may be fixed -/
theorem ML.fixed {S0 : HS} {p : Addr} {xs : List α} (h : ML S p xs) (gg : Grow S0 S) (h0 : S0.H p = none) : ∃ S' : HS, S'.H = S.H ∧ Grow S0 S' ∧ Same S.G S'.G ∧ Rp.rep S'.G (.ref p) xs ∧ ∀ q, q ≠ p → S.G q = none → S'.G q = none := by
  obtain ⟨h1, vs, h2, r⟩ := h
  exact ⟨S.fix p _ h1 h2, rfl, gg.fix h0 h1 h2, same_new h1, ⟨p, vs, rfl, upd_same, r.mono (show Same S.G (L2.upd S.G p (.lst vs)) from same_new h1)⟩, fun q hq e => by show L2.upd S.G p _ q = none; rw [upd_ne hq]; exact e⟩
theorem ML.fix {S' : HS} {p q : Addr} {xs : List α} (h : ML S q xs) (e : S'.H = S.H) (s : Same S.G S'.G) (hn : ∀ q, q ≠ p → S.G q = none → S'.G q = none) (ne : q ≠ p) : ML S' q xs := by
  obtain ⟨h1, vs, h2, r⟩ := h
  exact ⟨hn q ne h1, vs, by rw [e]; exact h2, r.mono s⟩
theorem SB.fixM {S0 : HS} {D : Ends} {sts : List Stmt} (i : Nat) {p : Addr} {xs : List α} (gg : Grow S0 S) (h0 : S0.H p = none) (hM : ML S p xs) (k : ∀ S' : HS, S'.H = S.H → Grow S0 S' → Same S.G S'.G → (∀ q, q ≠ p → S.G q = none → S'.G q = none) → SB X sts D (Γ.set i (some ⟨xs⟩)) S')
    (hΓ : Γ[i]? = some (some ⟨(⟨p⟩ : Adr)⟩) := by rfl) : SB X sts D Γ S := fun σ hσ => by
  obtain ⟨S', e, g', s', r, hn⟩ := hM.fixed gg h0
  obtain ⟨v, e1, rv⟩ := hσ.at_ i _ hΓ
  have ev : v = .ref p := rv
  subst ev
  have es : σ.set i (some (.ref p)) = σ := by
    obtain ⟨hl, e2⟩ := List.getElem?_eq_some_iff.mp e1
    rw [← e2, List.set_getElem_self]
  have q := k S' e g' s' hn σ (by rw [← es]; exact (hσ.mono s').set i (t := ⟨xs⟩) r)
  rw [e] at q
  exact q
/-- p.append(e) -/
theorem s_app {p : Addr} {xs : List α} {apos pos' : Pos} {D : Ends} {rest : List Stmt} (hm : ML S p xs) (ha : ER X a Γ S (⟨p⟩ : Adr)) (he : ER X e Γ S x) (hz : xs.length < 100000)
    (k : ∀ S2 : HS, Upd S p S2 → ML S2 p (xs ++ [x]) → SB X rest D Γ S2)
    (hs : swapsWith (.Call (.Attribute a "append" apos) [e] [] pos) none pos'.line X.env = pure false := by rfl)
    (hbase : attributeBase a "append" X.env (eval a X.env) = eval a X.env := by rfl)
    (hfew : ((backTo pos (starEach [e] X.env)).all (fun x => !x.1) && (backToKw pos (keywordEach [] X.env)).all (fun x => x.1.isSome) && decide (([e] : List Expr).length + ([] : List Keyword).length + (if ([] : List Keyword).isEmpty then 0 else 1) < 30)) = true := by rfl)
    (hline : (apos.endLine == pos.line) = true := by rfl) (hst : starEach [e] X.env = [(false, eval e X.env)] := by rfl) : SB X (.Expr (.Call (.Attribute a "append" apos) [e] [] pos) pos' :: rest) D Γ S := fun σ hσ => by
  refine w_cons (w_ps (ps_expr (pe_bm PySem.F.plainAttrs_list PySem.F.slot_list_append PySem.F.type_list_append mt_append pe_w (pa_cons pe_w pa_nil hst) hbase hfew hline hst) hs) (ha σ hσ S (.refl _) _ fun S1 u g1 ru => ?_))
  obtain ⟨_, vs, h2, r⟩ := hm.up g1
  cases (show u = V.ref p from ru)
  refine ⟨.inl ⟨rfl, vs, SqL.of h2⟩, he σ hσ S1 g1 _ fun S2 w g2 rw' => ?_⟩
  obtain ⟨n3, vs3, h3, r3⟩ := hm.up (g1.trans g2)
  refine ⟨p, vs3, w, rfl, rfl, h3, by rw [r3.len]; exact Nat.lt_of_lt_of_le hz (by decide), ?_⟩
  exact k (S2.add p (.lst (vs3 ++ [w])) n3) ((Upd.add n3).after (g1.trans g2)) ⟨n3, vs3 ++ [w], upd_same, r3.app (.cons rw' .nil)⟩ σ (hσ.mono (g1.trans g2).g)
/-- p[i] = e -/
theorem s_seti {p : Addr} {xs : List α} {tpos : Pos} {D : Ends} {rest : List Stmt} (hm : ML S p xs) (he : ER X e Γ S x) (ha : ER X a Γ S (⟨p⟩ : Adr)) (hb : ER X b Γ S i) (h0 : 0 ≤ i) (h1 : i < xs.length)
    (k : ∀ S2 : HS, Upd S p S2 → ML S2 p (xs.set i.toNat x) → SB X rest D Γ S2)
    (hsub : ∀ v, assign (.Subscript a b tpos) X.env v = (do
      let ov ← holding [v] (eval a X.env)
      let iv ← holding [v, ov] (eval b X.env)
      standAt tpos
      holding [v, ov, iv] (setItem ov iv v)
      release [v, ov, iv] []) := by intro _; rfl) (hs : swapsWithSole [.Subscript a b tpos] e pos.line X.env = pure false := by rfl) (hw : swappedStores [.Subscript a b tpos] e X.env = pure none := by rfl)
    (h2 : (assignEach [.Subscript a b tpos] X.env).map (·.2) = [assign (.Subscript a b tpos) X.env] := by rfl) : SB X (.Assign [.Subscript a b tpos] e pos :: rest) D Γ S := fun σ hσ => by
  refine w_cons (w_ps (ps_asg pe_w (pg_sub pe_w pe_w set_list hsub) hs hw h2) (he σ hσ S (.refl _) _ fun S1 w g1 rw' => ha σ hσ S1 g1 _ fun S2 u g2 ru => hb σ hσ S2 (g1.trans g2) _ fun S3 v g3 rv => ?_))
  obtain ⟨n3, vs3, h3, r3⟩ := hm.up ((g1.trans g2).trans g3)
  have hj : ixN vs3.length i = some i.toNat := by
    unfold ixN
    rw [if_pos h0, if_pos (by rw [r3.len]; exact h1)]
  refine ⟨p, vs3, i, i.toNat, ru, rv, h3, hj, ?_⟩
  exact k (S3.add p (.lst (vs3.set i.toNat w)) n3) ((Upd.add n3).after ((g1.trans g2).trans g3)) ⟨n3, _, upd_same, r3.set (Rp.mono (g2.trans g3).g rw') i.toNat⟩ σ (hσ.mono ((g1.trans g2).trans g3).g)

/-- e gives a new list, which may change -/
def EN {α : Type} [Rp α] (X : Cx) (e : Expr) (Γ : Gm) (S : HS) (xs : List α) : Prop :=
  ∀ σ, Slots S.G σ Γ → ∀ S1, Grow S S1 → ∀ Q : VK, (∀ S2 p, Grow S1 S2 → S1.H p = none → ML S2 p xs → Q (.ref p) S2.H) → wE X e σ S1.H Q
theorem EN.er {xs : List α} (h : EN X e Γ S xs) : ER X e Γ S xs := fun σ hσ S1 g Q k => h σ hσ S1 g Q fun S2 p g2 hp hM => by
  obtain ⟨S', e, g', _, r, _⟩ := hM.fixed g2 hp
  have q := k S' _ g' r
  rw [e] at q
  exact q
theorem en_list {xs : List α} {p : Pos} (hm : X.mg "list" = none) (ha : ER X a Γ S xs) (hg : Gl X "list" := by rfl) (hs : starEach [a] X.env = [(false, eval a X.env)] := by rfl) : EN X (.Call (.Name "list" p) [a] [] pos) Γ S xs :=
  fun σ hσ S1 g Q k => w_pe (pe_callTy call_list_of hg hm (by decide +kernel) (pa_cons pe_w pa_nil hs) (by decide) (by decide) hs) (ha σ hσ S1 g _ fun S2 v g2 ⟨q, vs, e1, e2, r⟩ => ⟨q, vs, by rw [e1], .inl (SqL.of (S2.le _ _ e2)), fun p' hp =>
    k (S2.add p' _ (S2.le.free hp)) p' (g2.trans (.add S2 p' _ hp)) (g2.h.free hp) ⟨S2.le.free hp, vs, upd_same, r⟩⟩)
theorem en_lst0 : EN X (.List [] pos) Γ S ([] : List α) := fun σ hσ S1 g Q k => w_pe (pe_lst pa_nil) ⟨Nat.zero_le _, fun p hp => k (S1.add p _ (S1.le.free hp)) p (.add S1 p _ hp) hp ⟨S1.le.free hp, [], upd_same, .nil⟩⟩
theorem en_lst1 (h : ER X a Γ S x) (hs : starEach [a] X.env = [(false, eval a X.env)] := by rfl) : EN X (.List [a] pos) Γ S [x] := fun σ hσ S1 g Q k =>
  w_pe (pe_lst (pa_cons pe_w pa_nil hs)) (h σ hσ S1 g _ fun S2 v g2 r => ⟨(by show 1 ≤ sizeLine; decide), fun p hp => k (S2.add p _ (S2.le.free hp)) p (g2.trans (.add S2 p _ hp)) (g2.h.free hp) ⟨S2.le.free hp, [v], upd_same, .cons r .nil⟩⟩)
theorem s_setN {nm : Str} {pos' : Pos} {D : Ends} {rest : List Stmt} {xs : List α} (i : Nat) (hN : X.N.Nodup) (h : EN X e Γ S xs) (k : ∀ (S1 : HS) (p : Addr), Grow S S1 → S.H p = none → ML S1 p xs → SB X rest D (Γ.set i (some ⟨(⟨p⟩ : Adr)⟩)) S1)
    (hi : X.N[i]? = some nm := by rfl) (hx : Loc X.env.scope nm := by first | exact Or.inl rfl | exact Or.inr rfl) (hs : swapsWith e (some (.Name nm pos')) pos.line X.env = pure false := by rfl)
    (hf : X.fn nm = true ∨ X.env.scope.names.lookup nm = some .local := by first | exact .inl rfl | exact .inr rfl) : SB X (.Assign [.Name nm pos'] e pos :: rest) D Γ S := fun σ hσ =>
  w_cons (w_ps (ps_set hN hi hx pe_w hs hf) (h σ hσ S (.refl _) _ fun S2 p g2 hp hM => k S2 p g2 hp hM _ (Slots.set (t := ⟨(⟨p⟩ : Adr)⟩) (hσ.mono g2.g) i rfl)))
end
end Fl

set_option Elab.async false
set_option linter.all false
set_option maxRecDepth 100000
set_option maxHeartbeats 4000000
namespace Fl
open PySem PySem.Spec PyProof.Rows L2
/-! ### list comprehensions -/
def wipeG (Γ : Gm) : List Nat → Gm
  | [] => Γ
  | v :: vs => (wipeG Γ vs).set v none
theorem Slots.wipe1 {G : Hp} {σ : L2.St} {Γ : Gm} (h : Slots G σ Γ) (i : Nat) : Slots G (σ.set i none) (Γ.set i none) :=
  ⟨by rw [List.length_set, List.length_set]; exact h.len, fun j t e => by
    by_cases hij : i = j
    · subst hij
      have hl : i < Γ.length := by
        have := (List.getElem?_eq_some_iff.mp e).1
        rw [List.length_set] at this
        exact this
      rw [List.getElem?_set_self hl] at e
      cases e
    · rw [List.getElem?_set_ne hij] at e
      obtain ⟨v, e1, r⟩ := h.at_ j t e
      exact ⟨v, by rw [List.getElem?_set_ne hij]; exact e1, r⟩⟩
theorem Slots.wipe {G : Hp} {σ : L2.St} {Γ : Gm} (h : Slots G σ Γ) : ∀ vs : List Nat, Slots G (wipe σ vs) (wipeG Γ vs)
  | [] => h
  | v :: vs => (h.wipe vs).wipe1 v
section
variable {α β γ : Type} [Rp α] [Rp β] [Rp γ] {X : Cx} {tg e a b c d elt iter : Expr} {Γ : Gm} {S : HS} {x : α} {y : β} {pos : Pos} {es : List Expr} {i j : Int}
/-- the block's context -/
abbrev Blk (X : Cx) (scope : Scope) (X' : Cx) : Prop := ∃ (s : Shared) (H : Hp) (C : Addr) (cl : List (Str × Addr)) (fp : List Addr), X' = X.blk s H scope (compEnvC scope cl C X.env) fp
def bE (X : Cx) (scope : Scope) (e : Expr) : TE := fun σ H Q => ∀ (s : Shared) (H0 : Hp) (C : Addr) (cl : List (Str × Addr)) (fp : List Addr), wE (X.blk s H0 scope (compEnvC scope cl C X.env) fp) e σ H Q
def bT (X : Cx) (scope : Scope) (e : Expr) : TT := fun σ H Q => ∀ (s : Shared) (H0 : Hp) (C : Addr) (cl : List (Str × Addr)) (fp : List Addr), wT (X.blk s H0 scope (compEnvC scope cl C X.env) fp) e σ H Q
theorem wipe_again {σ : L2.St} {i : Nat} {v : Option V} : L2.wipe ((L2.wipe σ [i]).set i v) [i] = L2.wipe σ [i] := by
  show (((σ.set i none).set i v).set i none) = σ.set i none
  rw [List.set_set, List.set_set]

abbrev Gx (Γ : Gm) (i : Nat) (x : α) : Gm := (wipeG Γ [i]).set i (some ⟨x⟩)
theorem lc_read {xs : List α} {p : α → Bool} {h : α → β} {wi : TI} {tt : TT} {te : TE} {n : Nat} {σ : L2.St} (hσ : Slots S.G σ Γ) {T : HS} (gT : Grow S T) (hz : xs.length ≤ 100000)
    (hwi : ∀ R : It → Hp → Prop, (∀ S2 J, Grow T S2 → Yields J S2.G xs → R J S2.H) → wi σ T.H R)
    (ht : ∀ x, x ∈ xs → ∀ S2, Grow S S2 → ∀ σ2, Slots S2.G σ2 (Gx Γ n x) → ∀ Q : Bool → Hp → Prop, (∀ S3, Grow S2 S3 → Q (p x) S3.H) → tt σ2 S2.H Q)
    (he : ∀ x, x ∈ xs → p x = true → ∀ S2, Grow S S2 → ∀ σ2, Slots S2.G σ2 (Gx Γ n x) → ∀ Q : VK, (∀ S3 w, Grow S2 S3 → Rp.rep S3.G w (h x) → Q w S3.H) → te σ2 S2.H Q)
    {Q : VK} (k : ∀ S2 D, Grow T S2 → T.H D = none → ML S2 D ((xs.filter p).map h) → Q (.ref D) S2.H) : tLc wi (gName n) tt te [n] σ T.H Q := by
  refine hwi _ fun T1 J g1 Y D hD => ?_
  refine ⟨fun i m H => m = xs.length - i ∧ i ≤ xs.length ∧ ∃ S' : HS, S'.H = H ∧ Grow T1 S' ∧ ML S' D (((xs.take i).filter p).map h), ⟨xs.length, by rw [Nat.sub_zero], Nat.zero_le _, T1.add D (.lst []) (T1.le.free hD), rfl, .add T1 D _ hD, T1.le.free hD, [], upd_same, .nil⟩, ?_⟩
  rintro i m H ⟨rfl, hi, S', rfl, g', hM⟩
  by_cases hlt : i < xs.length
  · refine .inr ⟨Y.go i S' g'.g hlt, fun H' => ∃ S2 : HS, S2.H = H' ∧ Grow T1 S2 ∧ ML S2 D (((xs.take (i + 1)).filter p).map h), fun H' q => ⟨xs.length - (i + 1), by omega, rfl, hlt, q⟩, fun v H' y => ?_⟩
    obtain ⟨S2, rfl, g2, x, hx, r⟩ := Y.yld i S' v H' g'.g hlt y
    have hm : x ∈ xs := List.mem_of_getElem? hx
    have gS : Grow S S2 := ((gT.trans g1).trans g').trans g2
    have hs2 : Slots S2.G ((L2.wipe σ [n]).set n (some v)) (Gx Γ n x) := ((hσ.mono gS.g).wipe [n]).set n (t := ⟨x⟩) r
    refine ⟨wipe_again, ht x hm S2 gS _ hs2 _ fun S3 g3 => ?_⟩
    have et : xs.take (i + 1) = xs.take i ++ [x] := by rw [List.take_add_one, hx]; rfl
    cases hp : p x with
    | false =>
      refine iteF ⟨S3, rfl, (g'.trans g2).trans g3, ?_⟩
      rw [et, List.filter_append, List.filter_cons, if_neg (by rw [hp]; decide), List.filter_nil, List.append_nil]
      exact hM.up (g2.trans g3)
    | true =>
      refine iteT (he x hm hp S3 (gS.trans g3) _ (hs2.mono g3.g) _ fun S4 w g4 r4 => ?_)
      obtain ⟨n4, vs, h4, r'⟩ := hM.up ((g2.trans g3).trans g4)
      have hl : vs.length < sizeLine := by
        rw [r'.len, List.length_map]
        have h1 := List.length_filter_le p (xs.take i)
        have h2 : (xs.take i).length ≤ i := List.length_take_le _ _
        exact Nat.lt_of_lt_of_le (show _ < 100001 by omega) (by decide)
      refine ⟨vs, h4, hl, S4.add D (.lst (vs ++ [w])) n4, rfl, (((g'.trans g2).trans g3).trans g4).mut hD n4, n4, vs ++ [w], upd_same, ?_⟩
      rw [et, List.filter_append, List.filter_cons, if_pos hp, List.filter_nil, List.map_append]
      exact r'.app (.cons r4 .nil)
  · have e : i = xs.length := by omega
    subst e
    rw [List.take_length] at hM
    exact .inl ⟨Y.stop _ S' g'.g (Nat.le_refl _), k S' D (g1.trans g') (g1.h.free hD) hM⟩
theorem bE_of {scope : Scope} {Γ' : Gm} {S2 : HS} {y : β} (h : ∀ X', Blk X scope X' → ER X' elt Γ' S2 y) {σ2 : L2.St} (hs : Slots S2.G σ2 Γ') {Q : VK} (k : ∀ S3 w, Grow S2 S3 → Rp.rep S3.G w y → Q w S3.H) : bE X scope elt σ2 S2.H Q :=
  fun s H0 C cl fp => h _ ⟨s, H0, C, cl, fp, rfl⟩ σ2 hs S2 (.refl _) Q k
theorem bT_of {scope : Scope} {Γ' : Gm} {S2 : HS} {t : Bool} (h : ∀ X', Blk X scope X' → TR X' c Γ' S2 t) {σ2 : L2.St} (hs : Slots S2.G σ2 Γ') {Q : Bool → Hp → Prop} (k : ∀ S3, Grow S2 S3 → Q t S3.H) : bT X scope c σ2 S2.H Q :=
  fun s H0 C cl fp => h _ ⟨s, H0, C, cl, fp, rfl⟩ σ2 hs S2 (.refl _) Q k
section
variable {scope : Scope} {n : Nat} {nm : Str} {npos : Pos} {xs : List α} {p : α → Bool} {h : α → β}
/-- [elt for nm in iter] -/
theorem en_lc (n : Nat) (hc : X.calm = true) (hN : X.N.Nodup) (hi : IT X (.Name nm npos) iter Γ S xs) (hz : xs.length ≤ 100000) (ok : BlkOk X.N X.env.scope scope [(nm, n)])
    (he : ∀ x, x ∈ xs → ∀ S2, Grow S S2 → ∀ X', Blk X scope X' → ER X' elt (Gx Γ n x) S2 (h x))
    (hx : (relabel scope X.env).names.lookup nm = some .local := by rfl) (hn : X.N[n]? = some nm := by rfl) (hs : ∀ x, foldedSetIterable iter X.env x = pure x := by intro _; rfl) :
    EN X (.ListComp elt [⟨.Name nm npos, iter, [], 0⟩] scope pos) Γ S (xs.map h) := fun σ hσ S1 g Q k => by
  obtain ⟨wi, hwi, ki⟩ := hi
  refine w_pe (pe_lc (own := [(nm, n)]) (g := gName n) (tt := tYes) (te := bE X scope elt) hc hN hwi ok (fun s H C cl fp => pg_name hN hn (.inl hx) (.inr hx)) (fun _ _ _ _ _ => pts_nil) (fun s H C cl fp => ⟨fun pins s1 σ1 H1 Q1 I1 h1 => h1 s H C cl fp pins s1 I1⟩) hs) ?_
  refine lc_read (p := fun _ => true) (h := h) hσ g hz (fun R q => ki σ hσ S1 g R q) (fun x _ S2 g2 σ2 _ Q q => q S2 (.refl _)) (fun x hx _ S2 g2 σ2 hs2 Q q => bE_of (he x hx S2 g2) hs2 q) fun S2 D g2 hD r => k S2 D g2 hD ?_
  rw [List.filter_eq_self.mpr (fun _ _ => rfl)] at r
  exact r
/-- [elt for nm in iter if c] -/
theorem en_lcI (n : Nat) (p : α → Bool) (hc : X.calm = true) (hN : X.N.Nodup) (hi : IT X (.Name nm npos) iter Γ S xs) (hz : xs.length ≤ 100000) (ok : BlkOk X.N X.env.scope scope [(nm, n)])
    (ht : ∀ x, x ∈ xs → ∀ S2, Grow S S2 → ∀ X', Blk X scope X' → TR X' c (Gx Γ n x) S2 (p x))
    (he : ∀ x, x ∈ xs → p x = true → ∀ S2, Grow S S2 → ∀ X', Blk X scope X' → ER X' elt (Gx Γ n x) S2 (h x))
    (hx : (relabel scope X.env).names.lookup nm = some .local := by rfl) (hn : X.N[n]? = some nm := by rfl) (hs : ∀ x, foldedSetIterable iter X.env x = pure x := by intro _; rfl) :
    EN X (.ListComp elt [⟨.Name nm npos, iter, [c], 0⟩] scope pos) Γ S ((xs.filter p).map h) := fun σ hσ S1 g Q k => by
  obtain ⟨wi, hwi, ki⟩ := hi
  refine w_pe (pe_lc (own := [(nm, n)]) (g := gName n) (tt := bT X scope c) (te := bE X scope elt) hc hN hwi ok (fun s H C cl fp => pg_name hN hn (.inl hx) (.inr hx)) (fun s H C cl fp => pts_one ⟨fun pins s1 σ1 H1 Q1 I1 h1 => h1 s H C cl fp pins s1 I1⟩) (fun s H C cl fp => ⟨fun pins s1 σ1 H1 Q1 I1 h1 => h1 s H C cl fp pins s1 I1⟩) hs) ?_
  exact lc_read (p := p) (h := h) hσ g hz (fun R q => ki σ hσ S1 g R q) (fun x hx S2 g2 σ2 hs2 Q q => bT_of (ht x hx S2 g2) hs2 q) (fun x hx hp S2 g2 σ2 hs2 Q q => bE_of (he x hx hp S2 g2) hs2 q) k
variable {D : Ends} {rest : List Stmt} {y : Str} {py spos : Pos}
/-- y = [elt for nm in iter] -/
theorem s_setLc (i n : Nat) (hc : X.calm = true) (hN : X.N.Nodup) (hi : IT X (.Name nm npos) iter Γ S xs) (hz : xs.length ≤ 100000) (ok : BlkOk X.N X.env.scope scope [(nm, n)])
    (he : ∀ x, x ∈ xs → ∀ S2, Grow S S2 → ∀ X', Blk X scope X' → ER X' elt (Gx Γ n x) S2 (h x)) (k : ∀ S1 q, Grow S S1 → S.H q = none → ML S1 q (xs.map h) → SB X rest D (Γ.set i (some ⟨(⟨q⟩ : Adr)⟩)) S1)
    (hsw : swapsWith (.ListComp elt [⟨.Name nm npos, iter, [], 0⟩] scope pos) (some (.Name y py)) spos.line X.env = pure true)
    (hx : (relabel scope X.env).names.lookup nm = some .local := by rfl) (hn : X.N[n]? = some nm := by rfl) (hs : ∀ x, foldedSetIterable iter X.env x = pure x := by intro _; rfl)
    (hy : X.N[i]? = some y := by rfl) (hyl : X.env.scope.names.lookup y = some .local := by rfl) :
    SB X (.Assign [.Name y py] (.ListComp elt [⟨.Name nm npos, iter, [], 0⟩] scope pos) spos :: rest) D Γ S := fun σ hσ => by
  obtain ⟨wi, hwi, ki⟩ := hi
  refine w_cons (w_ps (ps_setLc (own := [(nm, n)]) (g := gName n) (tt := tYes) (te := bE X scope elt) hc hN hy hyl hsw hwi ok (fun s H C cl fp => pg_name hN hn (.inl hx) (.inr hx)) (fun _ _ _ _ _ => pts_nil) (fun s H C cl fp => ⟨fun pins s1 σ1 H1 Q1 I1 h1 => h1 s H C cl fp pins s1 I1⟩) hs) ?_)
  refine lc_read (p := fun _ => true) (h := h) hσ (.refl _) hz (fun R q => ki σ hσ S (.refl _) R q) (fun x _ S2 g2 σ2 _ Q q => q S2 (.refl _)) (fun x hx _ S2 g2 σ2 hs2 Q q => bE_of (he x hx S2 g2) hs2 q) fun S2 q g2 hq r => k S2 q g2 hq ?_ _ ((hσ.mono g2.g).set i (t := ⟨(⟨q⟩ : Adr)⟩) rfl)
  rw [List.filter_eq_self.mpr (fun _ _ => rfl)] at r
  exact r
/-- y = [elt for nm in iter if c] -/
theorem s_setLcI (i n : Nat) (p : α → Bool) (hc : X.calm = true) (hN : X.N.Nodup) (hi : IT X (.Name nm npos) iter Γ S xs) (hz : xs.length ≤ 100000) (ok : BlkOk X.N X.env.scope scope [(nm, n)])
    (ht : ∀ x, x ∈ xs → ∀ S2, Grow S S2 → ∀ X', Blk X scope X' → TR X' c (Gx Γ n x) S2 (p x))
    (he : ∀ x, x ∈ xs → p x = true → ∀ S2, Grow S S2 → ∀ X', Blk X scope X' → ER X' elt (Gx Γ n x) S2 (h x)) (k : ∀ S1 q, Grow S S1 → S.H q = none → ML S1 q ((xs.filter p).map h) → SB X rest D (Γ.set i (some ⟨(⟨q⟩ : Adr)⟩)) S1)
    (hsw : swapsWith (.ListComp elt [⟨.Name nm npos, iter, [c], 0⟩] scope pos) (some (.Name y py)) spos.line X.env = pure true)
    (hx : (relabel scope X.env).names.lookup nm = some .local := by rfl) (hn : X.N[n]? = some nm := by rfl) (hs : ∀ x, foldedSetIterable iter X.env x = pure x := by intro _; rfl)
    (hy : X.N[i]? = some y := by rfl) (hyl : X.env.scope.names.lookup y = some .local := by rfl) :
    SB X (.Assign [.Name y py] (.ListComp elt [⟨.Name nm npos, iter, [c], 0⟩] scope pos) spos :: rest) D Γ S := fun σ hσ => by
  obtain ⟨wi, hwi, ki⟩ := hi
  refine w_cons (w_ps (ps_setLc (own := [(nm, n)]) (g := gName n) (tt := bT X scope c) (te := bE X scope elt) hc hN hy hyl hsw hwi ok (fun s H C cl fp => pg_name hN hn (.inl hx) (.inr hx)) (fun s H C cl fp => pts_one ⟨fun pins s1 σ1 H1 Q1 I1 h1 => h1 s H C cl fp pins s1 I1⟩) (fun s H C cl fp => ⟨fun pins s1 σ1 H1 Q1 I1 h1 => h1 s H C cl fp pins s1 I1⟩) hs) ?_)
  exact lc_read (p := p) (h := h) hσ (.refl _) hz (fun R q => ki σ hσ S (.refl _) R q) (fun x hx S2 g2 σ2 hs2 Q q => bT_of (ht x hx S2 g2) hs2 q) (fun x hx hp S2 g2 σ2 hs2 Q q => bE_of (he x hx hp S2 g2) hs2 q) fun S2 q g2 hq r =>
    k S2 q g2 hq r _ ((hσ.mono g2.g).set i (t := ⟨(⟨q⟩ : Adr)⟩) rfl)
end
end
end Fl

set_option Elab.async false
set_option linter.all false
set_option maxRecDepth 100000
set_option maxHeartbeats 4000000
namespace Fl
open PySem PySem.Spec PyProof.Rows L2
section
variable [c : Ctx]
theorem gl_ (i : Nat) {x : Str} (h : fa[i]? = some (.glo x)) : c.mg x = some (.ref (He.ga c.K x)) := He.glo_ok c.kin c.ns (c.says.d.fact i h)
theorem fr_ (i : Nat) {x : Str} (h : fa[i]? = some (.free x)) : c.mg x = none := He.free_ok c.kin c.ns (c.says.d.fact i h)
theorem st_ (i : Nat) {x z : Str} (h : fa[i]? = some (.str x z)) : ∃ t, c.mg x = some (.str z t) := He.str_ok c.kin c.ns (c.says.d.fact i h)
theorem in_ (i : Nat) {x : Str} {z : Int} (h : fa[i]? = some (.int x z)) : ∃ t, c.mg x = some (.int z t) := He.int_ok c.kin c.ns (c.says.d.fact i h)
theorem cl_ (i : Nat) {x : Str} (h : fa[i]? = some (.cls x)) : Cls c.K (He.ga c.K x) := He.cls_ok (c.says.d.fact i h)
theorem na_ (i : Nat) {x f : Str} (h : fa[i]? = some (.noat x f)) : NoAttr c.K (He.ga c.K x) f := He.noat_ok (c.says.d.fact i h)
theorem me_ (i : Nat) {x m : Str} (h : fa[i]? = some (.meth x m)) : Meth c.K (He.ga c.K x) m (He.ma c.K (He.ga c.K x) m) := He.meth_ok (c.says.d.fact i h)
theorem mk_ (i : Nat) {x : Str} (h : fa[i]? = some (.mkr x)) : Mk c.K (He.ga c.K x) (He.ma c.K (He.ga c.K x) "__init__") := He.mkr_ok (c.says.d.fact i h)
theorem g_ClearfloorError : c.mg "ClearfloorError" = some (.ref (He.ga c.K "ClearfloorError")) := gl_ 0 rfl
theorem g_MapError : c.mg "MapError" = some (.ref (He.ga c.K "MapError")) := gl_ 1 rfl
theorem g_LineError : c.mg "LineError" = some (.ref (He.ga c.K "LineError")) := gl_ 2 rfl
theorem g_RefusedError : c.mg "RefusedError" = some (.ref (He.ga c.K "RefusedError")) := gl_ 3 rfl
theorem g_Robot : c.mg "Robot" = some (.ref (He.ga c.K "Robot")) := gl_ 4 rfl
theorem g_Order : c.mg "Order" = some (.ref (He.ga c.K "Order")) := gl_ 5 rfl
theorem g_Fleet : c.mg "Fleet" = some (.ref (He.ga c.K "Fleet")) := gl_ 6 rfl
theorem g_Floor : c.mg "Floor" = some (.ref (He.ga c.K "Floor")) := gl_ 7 rfl
theorem g_write_event : c.mg "write_event" = some (.ref (He.ga c.K "write_event")) := gl_ 8 rfl
theorem g_read_number : c.mg "read_number" = some (.ref (He.ga c.K "read_number")) := gl_ 9 rfl
theorem g_read_order : c.mg "read_order" = some (.ref (He.ga c.K "read_order")) := gl_ 10 rfl
theorem g_read_event : c.mg "read_event" = some (.ref (He.ga c.K "read_event")) := gl_ 11 rfl
theorem g_write_log : c.mg "write_log" = some (.ref (He.ga c.K "write_log")) := gl_ 12 rfl
theorem g_read_log : c.mg "read_log" = some (.ref (He.ga c.K "read_log")) := gl_ 13 rfl
theorem g_distances : c.mg "distances" = some (.ref (He.ga c.K "distances")) := gl_ 14 rfl
theorem g_distance : c.mg "distance" = some (.ref (He.ga c.K "distance")) := gl_ 15 rfl
theorem g_links_of : c.mg "links_of" = some (.ref (He.ga c.K "links_of")) := gl_ 16 rfl
theorem g_changed_links : c.mg "changed_links" = some (.ref (He.ga c.K "changed_links")) := gl_ 17 rfl
theorem g_follow : c.mg "follow" = some (.ref (He.ga c.K "follow")) := gl_ 18 rfl
theorem g_new_ways : c.mg "new_ways" = some (.ref (He.ga c.K "new_ways")) := gl_ 19 rfl
theorem g_ahead_table : c.mg "ahead_table" = some (.ref (He.ga c.K "ahead_table")) := gl_ 20 rfl
theorem g_next_spots : c.mg "next_spots" = some (.ref (He.ga c.K "next_spots")) := gl_ 21 rfl
theorem g_explore : c.mg "explore" = some (.ref (He.ga c.K "explore")) := gl_ 22 rfl
theorem g_path_to : c.mg "path_to" = some (.ref (He.ga c.K "path_to")) := gl_ 23 rfl
theorem g_find_path : c.mg "find_path" = some (.ref (He.ga c.K "find_path")) := gl_ 24 rfl
theorem g_search_cut : c.mg "search_cut" = some (.ref (He.ga c.K "search_cut")) := gl_ 25 rfl
theorem g_add_way : c.mg "add_way" = some (.ref (He.ga c.K "add_way")) := gl_ 26 rfl
theorem g_most_ways : c.mg "most_ways" = some (.ref (He.ga c.K "most_ways")) := gl_ 27 rfl
theorem g_first_robot : c.mg "first_robot" = some (.ref (He.ga c.K "first_robot")) := gl_ 28 rfl
theorem g_nearer_places : c.mg "nearer_places" = some (.ref (He.ga c.K "nearer_places")) := gl_ 29 rfl
theorem g_step : c.mg "step" = some (.ref (He.ga c.K "step")) := gl_ 30 rfl
theorem g_step_home : c.mg "step_home" = some (.ref (He.ga c.K "step_home")) := gl_ 31 rfl
theorem g_handle : c.mg "handle" = some (.ref (He.ga c.K "handle")) := gl_ 32 rfl
theorem g_plain_act : c.mg "plain_act" = some (.ref (He.ga c.K "plain_act")) := gl_ 33 rfl
theorem g_first_goes : c.mg "first_goes" = some (.ref (He.ga c.K "first_goes")) := gl_ 34 rfl
theorem g_careful_act : c.mg "careful_act" = some (.ref (He.ga c.K "careful_act")) := gl_ 35 rfl
theorem g_idle_act : c.mg "idle_act" = some (.ref (He.ga c.K "idle_act")) := gl_ 36 rfl
theorem g_act_of : c.mg "act_of" = some (.ref (He.ga c.K "act_of")) := gl_ 37 rfl
theorem g_nearest_free : c.mg "nearest_free" = some (.ref (He.ga c.K "nearest_free")) := gl_ 38 rfl
theorem g_next_order : c.mg "next_order" = some (.ref (He.ga c.K "next_order")) := gl_ 39 rfl
theorem g_assign : c.mg "assign" = some (.ref (He.ga c.K "assign")) := gl_ 40 rfl
theorem g_robot_on : c.mg "robot_on" = some (.ref (He.ga c.K "robot_on")) := gl_ 41 rfl
theorem g_hindrance : c.mg "hindrance" = some (.ref (He.ga c.K "hindrance")) := gl_ 42 rfl
theorem g_hindrances : c.mg "hindrances" = some (.ref (He.ga c.K "hindrances")) := gl_ 43 rfl
theorem g_waits : c.mg "waits" = some (.ref (He.ga c.K "waits")) := gl_ 44 rfl
theorem g_why_no_order : c.mg "why_no_order" = some (.ref (He.ga c.K "why_no_order")) := gl_ 45 rfl
theorem g_why_not : c.mg "why_not" = some (.ref (He.ga c.K "why_not")) := gl_ 46 rfl
theorem g_broken_down : c.mg "broken_down" = some (.ref (He.ga c.K "broken_down")) := gl_ 47 rfl
theorem g_happen : c.mg "happen" = some (.ref (He.ga c.K "happen")) := gl_ 48 rfl
theorem g_run : c.mg "run" = some (.ref (He.ga c.K "run")) := gl_ 49 rfl
theorem g_station_of : c.mg "station_of" = some (.ref (He.ga c.K "station_of")) := gl_ 50 rfl
theorem g_is_tile : c.mg "is_tile" = some (.ref (He.ga c.K "is_tile")) := gl_ 51 rfl
theorem g_is_cell : c.mg "is_cell" = some (.ref (He.ga c.K "is_cell")) := gl_ 52 rfl
theorem g_is_door : c.mg "is_door" = some (.ref (He.ga c.K "is_door")) := gl_ 53 rfl
theorem g_row_problem : c.mg "row_problem" = some (.ref (He.ga c.K "row_problem")) := gl_ 54 rfl
theorem g_tile_problem : c.mg "tile_problem" = some (.ref (He.ga c.K "tile_problem")) := gl_ 55 rfl
theorem g_whole_problem : c.mg "whole_problem" = some (.ref (He.ga c.K "whole_problem")) := gl_ 56 rfl
theorem g_scan : c.mg "scan" = some (.ref (He.ga c.K "scan")) := gl_ 57 rfl
theorem g_read_rows : c.mg "read_rows" = some (.ref (He.ga c.K "read_rows")) := gl_ 58 rfl
theorem g_cells_of : c.mg "cells_of" = some (.ref (He.ga c.K "cells_of")) := gl_ 59 rfl
theorem g_neighbors : c.mg "neighbors" = some (.ref (He.ga c.K "neighbors")) := gl_ 60 rfl
theorem g_read_floor : c.mg "read_floor" = some (.ref (He.ga c.K "read_floor")) := gl_ 61 rfl
theorem g_law_cell : c.mg "_law_cell" = some (.ref (He.ga c.K "_law_cell")) := gl_ 62 rfl
theorem g_law_row : c.mg "_law_row" = some (.ref (He.ga c.K "_law_row")) := gl_ 63 rfl
theorem g_law_box : c.mg "_law_box" = some (.ref (He.ga c.K "_law_box")) := gl_ 64 rfl
theorem g_law_draw : c.mg "_law_draw" = some (.ref (He.ga c.K "_law_draw")) := gl_ 65 rfl
theorem g_law_values : c.mg "_law_values" = some (.ref (He.ga c.K "_law_values")) := gl_ 66 rfl
theorem g_law_tile : c.mg "_law_tile" = some (.ref (He.ga c.K "_law_tile")) := gl_ 67 rfl
theorem g_law_renamed : c.mg "_law_renamed" = some (.ref (He.ga c.K "_law_renamed")) := gl_ 68 rfl
theorem g_law_mended : c.mg "_law_mended" = some (.ref (He.ga c.K "_law_mended")) := gl_ 69 rfl
theorem g_law_rows : c.mg "_law_rows" = some (.ref (He.ga c.K "_law_rows")) := gl_ 70 rfl
theorem g_law_beside : c.mg "_law_beside" = some (.ref (He.ga c.K "_law_beside")) := gl_ 71 rfl
theorem g_law_world : c.mg "_law_world" = some (.ref (He.ga c.K "_law_world")) := gl_ 72 rfl
theorem g_law_event : c.mg "_law_event" = some (.ref (He.ga c.K "_law_event")) := gl_ 73 rfl
theorem g_law_moved : c.mg "_law_moved" = some (.ref (He.ga c.K "_law_moved")) := gl_ 74 rfl
theorem g_law_then : c.mg "_law_then" = some (.ref (He.ga c.K "_law_then")) := gl_ 75 rfl
theorem g_law_history : c.mg "_law_history" = some (.ref (He.ga c.K "_law_history")) := gl_ 76 rfl
theorem g_law_told : c.mg "_law_told" = some (.ref (He.ga c.K "_law_told")) := gl_ 77 rfl
theorem g_law_start : c.mg "_law_start" = some (.ref (He.ga c.K "_law_start")) := gl_ 78 rfl
theorem g_law : c.mg "law" = some (.ref (He.ga c.K "law")) := gl_ 79 rfl
theorem b_any : c.mg "any" = none := fr_ 80 rfl
theorem b_enumerate : c.mg "enumerate" = none := fr_ 81 rfl
theorem b_int : c.mg "int" = none := fr_ 82 rfl
theorem b_len : c.mg "len" = none := fr_ 83 rfl
theorem b_list : c.mg "list" = none := fr_ 84 rfl
theorem b_max : c.mg "max" = none := fr_ 85 rfl
theorem b_min : c.mg "min" = none := fr_ 86 rfl
theorem b_range : c.mg "range" = none := fr_ 87 rfl
theorem b_reversed : c.mg "reversed" = none := fr_ 88 rfl
theorem b_set : c.mg "set" = none := fr_ 89 rfl
theorem b_sorted : c.mg "sorted" = none := fr_ 90 rfl
theorem b_super : c.mg "super" = none := fr_ 91 rfl
theorem b_tuple : c.mg "tuple" = none := fr_ 92 rfl
theorem b_zip : c.mg "zip" = none := fr_ 93 rfl
theorem k_LETTERS_log : ∃ t, c.mg "LETTERS_log" = some (.str "ABCDEFGHIJKLMNOPQRSTUVWXYZ" t) := st_ 94 rfl
theorem k_FIGURES : ∃ t, c.mg "FIGURES" = some (.str "0123456789" t) := st_ 95 rfl
theorem g_WORDS : c.mg "WORDS" = some (.ref (He.ga c.K "WORDS")) := gl_ 96 rfl
theorem g_REASONS : c.mg "REASONS" = some (.ref (He.ga c.K "REASONS")) := gl_ 97 rfl
theorem k_LETTERS_floors : ∃ t, c.mg "LETTERS_floors" = some (.str "ABCDEFGH" t) := st_ 98 rfl
theorem k_ROW_LIMIT : ∃ t, c.mg "ROW_LIMIT" = some (.int 16 t) := in_ 99 rfl
theorem k_COLUMN_LIMIT : ∃ t, c.mg "COLUMN_LIMIT" = some (.int 16 t) := in_ 100 rfl
theorem k_CELL_LIMIT : ∃ t, c.mg "CELL_LIMIT" = some (.int 120 t) := in_ 101 rfl
theorem k_STATION_LIMIT : ∃ t, c.mg "STATION_LIMIT" = some (.int 8 t) := in_ 102 rfl
theorem k_CAPITALS : ∃ t, c.mg "CAPITALS" = some (.str "ABCDEFGHIJKLMNOPQRSTUVWXYZ" t) := st_ 103 rfl
theorem k_SMALL_LETTERS : ∃ t, c.mg "SMALL_LETTERS" = some (.str "abcdefghijklmnopqrstuvwxyz" t) := st_ 104 rfl
theorem c_Robot : Cls c.K (He.ga c.K "Robot") := cl_ 105 rfl
theorem mk_Robot : Mk c.K (He.ga c.K "Robot") (He.ma c.K (He.ga c.K "Robot") "__init__") := mk_ 106 rfl
theorem n_Robot_place : NoAttr c.K (He.ga c.K "Robot") "place" := na_ 107 rfl
theorem n_Robot_broken : NoAttr c.K (He.ga c.K "Robot") "broken" := na_ 108 rfl
theorem n_Robot_way : NoAttr c.K (He.ga c.K "Robot") "way" := na_ 109 rfl
theorem c_Order : Cls c.K (He.ga c.K "Order") := cl_ 110 rfl
theorem mk_Order : Mk c.K (He.ga c.K "Order") (He.ma c.K (He.ga c.K "Order") "__init__") := mk_ 111 rfl
theorem n_Order_start : NoAttr c.K (He.ga c.K "Order") "start" := na_ 112 rfl
theorem n_Order_goal : NoAttr c.K (He.ga c.K "Order") "goal" := na_ 113 rfl
theorem n_Order_done : NoAttr c.K (He.ga c.K "Order") "done" := na_ 114 rfl
theorem n_Order_robot : NoAttr c.K (He.ga c.K "Order") "robot" := na_ 115 rfl
theorem n_Order_loaded : NoAttr c.K (He.ga c.K "Order") "loaded" := na_ 116 rfl
theorem c_Fleet : Cls c.K (He.ga c.K "Fleet") := cl_ 117 rfl
theorem mk_Fleet : Mk c.K (He.ga c.K "Fleet") (He.ma c.K (He.ga c.K "Fleet") "__init__") := mk_ 118 rfl
theorem n_Fleet_floor : NoAttr c.K (He.ga c.K "Fleet") "floor" := na_ 119 rfl
theorem n_Fleet_patience : NoAttr c.K (He.ga c.K "Fleet") "patience" := na_ 120 rfl
theorem n_Fleet_robots : NoAttr c.K (He.ga c.K "Fleet") "robots" := na_ 121 rfl
theorem n_Fleet_orders : NoAttr c.K (He.ga c.K "Fleet") "orders" := na_ 122 rfl
theorem c_Floor : Cls c.K (He.ga c.K "Floor") := cl_ 123 rfl
theorem mk_Floor : Mk c.K (He.ga c.K "Floor") (He.ma c.K (He.ga c.K "Floor") "__init__") := mk_ 124 rfl
theorem n_Floor_near : NoAttr c.K (He.ga c.K "Floor") "near" := na_ 125 rfl
theorem n_Floor_size : NoAttr c.K (He.ga c.K "Floor") "size" := na_ 126 rfl
theorem n_Floor_depot : NoAttr c.K (He.ga c.K "Floor") "depot" := na_ 127 rfl
theorem n_Floor_doors : NoAttr c.K (He.ga c.K "Floor") "doors" := na_ 128 rfl
theorem n_Floor_stations : NoAttr c.K (He.ga c.K "Floor") "stations" := na_ 129 rfl
theorem n_Floor_places : NoAttr c.K (He.ga c.K "Floor") "places" := na_ 130 rfl
theorem m_Robot_twin : Meth c.K (He.ga c.K "Robot") "twin" (He.ma c.K (He.ga c.K "Robot") "twin") := me_ 131 rfl
theorem m_Order_twin : Meth c.K (He.ga c.K "Order") "twin" (He.ma c.K (He.ga c.K "Order") "twin") := me_ 132 rfl
theorem m_Order_give : Meth c.K (He.ga c.K "Order") "give" (He.ma c.K (He.ga c.K "Order") "give") := me_ 133 rfl
theorem m_Order_load : Meth c.K (He.ga c.K "Order") "load" (He.ma c.K (He.ga c.K "Order") "load") := me_ 134 rfl
theorem m_Order_release : Meth c.K (He.ga c.K "Order") "release" (He.ma c.K (He.ga c.K "Order") "release") := me_ 135 rfl
theorem m_Order_finish : Meth c.K (He.ga c.K "Order") "finish" (He.ma c.K (He.ga c.K "Order") "finish") := me_ 136 rfl
theorem m_Fleet_twin : Meth c.K (He.ga c.K "Fleet") "twin" (He.ma c.K (He.ga c.K "Fleet") "twin") := me_ 137 rfl
theorem m_Fleet_closed : Meth c.K (He.ga c.K "Fleet") "closed" (He.ma c.K (He.ga c.K "Fleet") "closed") := me_ 138 rfl
theorem m_Fleet_taken : Meth c.K (He.ga c.K "Fleet") "taken" (He.ma c.K (He.ga c.K "Fleet") "taken") := me_ 139 rfl
theorem m_Fleet_running : Meth c.K (He.ga c.K "Fleet") "running" (He.ma c.K (He.ga c.K "Fleet") "running") := me_ 140 rfl
theorem m_Fleet_kept_ways : Meth c.K (He.ga c.K "Fleet") "kept_ways" (He.ma c.K (He.ga c.K "Fleet") "kept_ways") := me_ 141 rfl
theorem m_Fleet_order_of : Meth c.K (He.ga c.K "Fleet") "order_of" (He.ma c.K (He.ga c.K "Fleet") "order_of") := me_ 142 rfl
theorem m_Fleet_aim : Meth c.K (He.ga c.K "Fleet") "aim" (He.ma c.K (He.ga c.K "Fleet") "aim") := me_ 143 rfl
theorem m_Fleet_is_free : Meth c.K (He.ga c.K "Fleet") "is_free" (He.ma c.K (He.ga c.K "Fleet") "is_free") := me_ 144 rfl
theorem m_Fleet_first_open : Meth c.K (He.ga c.K "Fleet") "first_open" (He.ma c.K (He.ga c.K "Fleet") "first_open") := me_ 145 rfl
theorem m_Floor_around : Meth c.K (He.ga c.K "Floor") "around" (He.ma c.K (He.ga c.K "Floor") "around") := me_ 146 rfl
end
abbrev N_write_event : List Str := ["event"]
theorem sc_write_event : FnScope N_write_event ["event"] (defScope s_write_event) := ⟨rfl, rfl, rfl, by decide +kernel, rfl, by decide +kernel, by decide +kernel⟩
abbrev N_read_number : List Str := ["text", "sign"]
theorem sc_read_number : FnScope N_read_number ["text"] (defScope s_read_number) := ⟨rfl, rfl, rfl, by decide +kernel, rfl, by decide +kernel, by decide +kernel⟩
abbrev N_read_order : List Str := ["parts", "part"]
theorem sc_read_order : FnScope N_read_order ["parts"] (defScope s_read_order) := ⟨rfl, rfl, rfl, by decide +kernel, rfl, by decide +kernel, by decide +kernel⟩
abbrev N_read_event : List Str := ["line", "parts", "robot"]
theorem sc_read_event : FnScope N_read_event ["line"] (defScope s_read_event) := ⟨rfl, rfl, rfl, by decide +kernel, rfl, by decide +kernel, by decide +kernel⟩
abbrev N_write_log : List Str := ["events", "event"]
theorem sc_write_log : FnScope N_write_log ["events"] (defScope s_write_log) := ⟨rfl, rfl, rfl, by decide +kernel, rfl, by decide +kernel, by decide +kernel⟩
abbrev N_read_log : List Str := ["text", "events", "number", "line", "event"]
theorem sc_read_log : FnScope N_read_log ["text"] (defScope s_read_log) := ⟨rfl, rfl, rfl, by decide +kernel, rfl, by decide +kernel, by decide +kernel⟩
abbrev N_distances : List Str := ["floor", "closed", "aims", "position", "found", "queue", "cell", "place", "other"]
theorem sc_distances : FnScope N_distances ["floor", "closed", "aims"] (defScope s_distances) := ⟨rfl, rfl, rfl, by decide +kernel, rfl, by decide +kernel, by decide +kernel⟩
abbrev N_distance : List Str := ["floor", "closed", "aims", "position"]
theorem sc_distance : FnScope N_distance ["floor", "closed", "aims", "position"] (defScope s_distance) := ⟨rfl, rfl, rfl, by decide +kernel, rfl, by decide +kernel, by decide +kernel⟩
abbrev N_Robot_init : List Str := ["self", "place", "broken", "way"]
theorem sc_Robot_init : FnScope N_Robot_init ["self", "place", "broken", "way"] (defScope s_Robot_init) := ⟨rfl, rfl, rfl, by decide +kernel, rfl, by decide +kernel, by decide +kernel⟩
abbrev N_Robot_twin : List Str := ["self"]
theorem sc_Robot_twin : FnScope N_Robot_twin ["self"] (defScope s_Robot_twin) := ⟨rfl, rfl, rfl, by decide +kernel, rfl, by decide +kernel, by decide +kernel⟩
abbrev N_Order_init : List Str := ["self", "start", "goal"]
theorem sc_Order_init : FnScope N_Order_init ["self", "start", "goal"] (defScope s_Order_init) := ⟨rfl, rfl, rfl, by decide +kernel, rfl, by decide +kernel, by decide +kernel⟩
abbrev N_Order_twin : List Str := ["self", "order"]
theorem sc_Order_twin : FnScope N_Order_twin ["self"] (defScope s_Order_twin) := ⟨rfl, rfl, rfl, by decide +kernel, rfl, by decide +kernel, by decide +kernel⟩
abbrev N_Order_give : List Str := ["self", "robot"]
theorem sc_Order_give : FnScope N_Order_give ["self", "robot"] (defScope s_Order_give) := ⟨rfl, rfl, rfl, by decide +kernel, rfl, by decide +kernel, by decide +kernel⟩
abbrev N_Order_load : List Str := ["self"]
theorem sc_Order_load : FnScope N_Order_load ["self"] (defScope s_Order_load) := ⟨rfl, rfl, rfl, by decide +kernel, rfl, by decide +kernel, by decide +kernel⟩
abbrev N_Order_release : List Str := ["self"]
theorem sc_Order_release : FnScope N_Order_release ["self"] (defScope s_Order_release) := ⟨rfl, rfl, rfl, by decide +kernel, rfl, by decide +kernel, by decide +kernel⟩
abbrev N_Order_finish : List Str := ["self"]
theorem sc_Order_finish : FnScope N_Order_finish ["self"] (defScope s_Order_finish) := ⟨rfl, rfl, rfl, by decide +kernel, rfl, by decide +kernel, by decide +kernel⟩
abbrev N_Fleet_init : List Str := ["self", "floor", "robots", "patience", "k"]
theorem sc_Fleet_init : FnScope N_Fleet_init ["self", "floor", "robots", "patience"] (defScope s_Fleet_init) := ⟨rfl, rfl, rfl, by decide +kernel, rfl, by decide +kernel, by decide +kernel⟩
abbrev N_Fleet_twin : List Str := ["self", "fleet", "robot", "order"]
theorem sc_Fleet_twin : FnScope N_Fleet_twin ["self"] (defScope s_Fleet_twin) := ⟨rfl, rfl, rfl, by decide +kernel, rfl, by decide +kernel, by decide +kernel⟩
abbrev N_Fleet_closed : List Str := ["self", "depot", "robot"]
theorem sc_Fleet_closed : FnScope N_Fleet_closed ["self"] (defScope s_Fleet_closed) := ⟨rfl, rfl, rfl, by decide +kernel, rfl, by decide +kernel, by decide +kernel⟩
abbrev N_Fleet_taken : List Str := ["self", "depot", "robot"]
theorem sc_Fleet_taken : FnScope N_Fleet_taken ["self"] (defScope s_Fleet_taken) := ⟨rfl, rfl, rfl, by decide +kernel, rfl, by decide +kernel, by decide +kernel⟩
abbrev N_Fleet_running : List Str := ["self", "depot", "numbers", "number", "robot"]
theorem sc_Fleet_running : FnScope N_Fleet_running ["self"] (defScope s_Fleet_running) := ⟨rfl, rfl, rfl, by decide +kernel, rfl, by decide +kernel, by decide +kernel⟩
abbrev N_Fleet_kept_ways : List Str := ["self", "numbers", "number"]
theorem sc_Fleet_kept_ways : FnScope N_Fleet_kept_ways ["self", "numbers"] (defScope s_Fleet_kept_ways) := ⟨rfl, rfl, rfl, by decide +kernel, rfl, by decide +kernel, by decide +kernel⟩
abbrev N_Fleet_order_of : List Str := ["self", "robot", "number", "order"]
theorem sc_Fleet_order_of : FnScope N_Fleet_order_of ["self", "robot"] (defScope s_Fleet_order_of) := ⟨rfl, rfl, rfl, by decide +kernel, rfl, by decide +kernel, by decide +kernel⟩
abbrev N_Fleet_aim : List Str := ["self", "number", "order"]
theorem sc_Fleet_aim : FnScope N_Fleet_aim ["self", "number"] (defScope s_Fleet_aim) := ⟨rfl, rfl, rfl, by decide +kernel, rfl, by decide +kernel, by decide +kernel⟩
abbrev N_Fleet_is_free : List Str := ["self", "robot"]
theorem sc_Fleet_is_free : FnScope N_Fleet_is_free ["self", "robot"] (defScope s_Fleet_is_free) := ⟨rfl, rfl, rfl, by decide +kernel, rfl, by decide +kernel, by decide +kernel⟩
abbrev N_Fleet_first_open : List Str := ["self", "number", "order"]
theorem sc_Fleet_first_open : FnScope N_Fleet_first_open ["self"] (defScope s_Fleet_first_open) := ⟨rfl, rfl, rfl, by decide +kernel, rfl, by decide +kernel, by decide +kernel⟩
abbrev N_links_of : List Str := ["ways", "links", "way", "index"]
theorem sc_links_of : FnScope N_links_of ["ways"] (defScope s_links_of) := ⟨rfl, rfl, rfl, by decide +kernel, rfl, by decide +kernel, by decide +kernel⟩
abbrev N_changed_links : List Str := ["links", "path", "kept", "index", "cell", "outward", "other", "beyond"]
theorem sc_changed_links : FnScope N_changed_links ["links", "path"] (defScope s_changed_links) := ⟨rfl, rfl, rfl, by decide +kernel, rfl, by decide +kernel, by decide +kernel⟩
abbrev N_follow : List Str := ["links", "cell", "table", "start", "end", "way"]
theorem sc_follow : FnScope N_follow ["links", "cell"] (defScope s_follow) := ⟨rfl, rfl, rfl, by decide +kernel, rfl, by decide +kernel, by decide +kernel⟩
abbrev N_new_ways : List Str := ["ways", "path", "links", "way", "beginnings", "first", "outward", "cell"]
theorem sc_new_ways : FnScope N_new_ways ["ways", "path"] (defScope s_new_ways) := ⟨rfl, rfl, rfl, by decide +kernel, rfl, by decide +kernel, by decide +kernel⟩
abbrev N_ahead_table : List Str := ["ways", "table", "way", "before", "cell"]
theorem sc_ahead_table : FnScope N_ahead_table ["ways"] (defScope s_ahead_table) := ⟨rfl, rfl, rfl, by decide +kernel, rfl, by decide +kernel, by decide +kernel⟩
abbrev N_next_spots : List Str := ["floor", "closed", "table", "spot", "cell", "outward", "other", "row", "before"]
theorem sc_next_spots : FnScope N_next_spots ["floor", "closed", "table", "spot"] (defScope s_next_spots) := ⟨rfl, rfl, rfl, by decide +kernel, rfl, by decide +kernel, by decide +kernel⟩
abbrev N_explore : List Str := ["floor", "closed", "ways", "starts", "table", "spots", "parents", "seen", "cell", "place", "spot"]
theorem sc_explore : FnScope N_explore ["floor", "closed", "ways", "starts"] (defScope s_explore) := ⟨rfl, rfl, rfl, by decide +kernel, rfl, by decide +kernel, by decide +kernel⟩
abbrev N_path_to : List Str := ["spots", "parents", "index", "path", "place"]
theorem sc_path_to : FnScope N_path_to ["spots", "parents", "index"] (defScope s_path_to) := ⟨rfl, rfl, rfl, by decide +kernel, rfl, by decide +kernel, by decide +kernel⟩
abbrev N_find_path : List Str := ["floor", "closed", "ways", "starts", "goals", "spots", "parents", "index", "cell", "outward"]
theorem sc_find_path : FnScope N_find_path ["floor", "closed", "ways", "starts", "goals"] (defScope s_find_path) := ⟨rfl, rfl, rfl, by decide +kernel, rfl, by decide +kernel, by decide +kernel⟩
abbrev N_search_cut : List Str := ["floor", "closed", "ways", "starts", "spots", "parents", "cell"]
theorem sc_search_cut : FnScope N_search_cut ["floor", "closed", "ways", "starts"] (defScope s_search_cut) := ⟨rfl, rfl, rfl, by decide +kernel, rfl, by decide +kernel, by decide +kernel⟩
abbrev N_add_way : List Str := ["floor", "closed", "ways", "cell", "path"]
theorem sc_add_way : FnScope N_add_way ["floor", "closed", "ways", "cell"] (defScope s_add_way) := ⟨rfl, rfl, rfl, by decide +kernel, rfl, by decide +kernel, by decide +kernel⟩
abbrev N_most_ways : List Str := ["floor", "closed", "sources", "goals", "ways", "path"]
theorem sc_most_ways : FnScope N_most_ways ["floor", "closed", "sources", "goals"] (defScope s_most_ways) := ⟨rfl, rfl, rfl, by decide +kernel, rfl, by decide +kernel, by decide +kernel⟩
abbrev N_first_robot : List Str := ["fleet", "number", "order", "place"]
theorem sc_first_robot : FnScope N_first_robot ["fleet"] (defScope s_first_robot) := ⟨rfl, rfl, rfl, by decide +kernel, rfl, by decide +kernel, by decide +kernel⟩
abbrev N_nearer_places : List Str := ["fleet", "cells", "robot", "spans", "place", "far", "position"]
theorem sc_nearer_places : FnScope N_nearer_places ["fleet", "cells", "robot"] (defScope s_nearer_places) := ⟨rfl, rfl, rfl, by decide +kernel, rfl, by decide +kernel, by decide +kernel⟩
abbrev N_step : List Str := ["fleet", "robot", "position", "floor", "moved", "number", "others", "ways", "way"]
theorem sc_step : FnScope N_step ["fleet", "robot", "position"] (defScope s_step) := ⟨rfl, rfl, rfl, by decide +kernel, rfl, by decide +kernel, by decide +kernel⟩
abbrev N_step_home : List Str := ["fleet", "robot", "moved", "way"]
theorem sc_step_home : FnScope N_step_home ["fleet", "robot"] (defScope s_step_home) := ⟨rfl, rfl, rfl, by decide +kernel, rfl, by decide +kernel, by decide +kernel⟩
abbrev N_handle : List Str := ["fleet", "number", "moved", "order"]
theorem sc_handle : FnScope N_handle ["fleet", "number"] (defScope s_handle) := ⟨rfl, rfl, rfl, by decide +kernel, rfl, by decide +kernel, by decide +kernel⟩
abbrev N_plain_act : List Str := ["fleet", "number", "robot", "position", "moved"]
theorem sc_plain_act : FnScope N_plain_act ["fleet", "number", "robot"] (defScope s_plain_act) := ⟨rfl, rfl, rfl, by decide +kernel, rfl, by decide +kernel, by decide +kernel⟩
abbrev N_first_goes : List Str := ["fleet", "robot"]
theorem sc_first_goes : FnScope N_first_goes ["fleet"] (defScope s_first_goes) := ⟨rfl, rfl, rfl, by decide +kernel, rfl, by decide +kernel, by decide +kernel⟩
abbrev N_careful_act : List Str := ["fleet", "number", "robot", "position", "moved"]
theorem sc_careful_act : FnScope N_careful_act ["fleet", "number", "robot"] (defScope s_careful_act) := ⟨rfl, rfl, rfl, by decide +kernel, rfl, by decide +kernel, by decide +kernel⟩
abbrev N_idle_act : List Str := ["fleet", "robot", "moved"]
theorem sc_idle_act : FnScope N_idle_act ["fleet", "robot"] (defScope s_idle_act) := ⟨rfl, rfl, rfl, by decide +kernel, rfl, by decide +kernel, by decide +kernel⟩
abbrev N_act_of : List Str := ["fleet", "robot", "number", "place"]
theorem sc_act_of : FnScope N_act_of ["fleet", "robot"] (defScope s_act_of) := ⟨rfl, rfl, rfl, by decide +kernel, rfl, by decide +kernel, by decide +kernel⟩
abbrev N_nearest_free : List Str := ["fleet", "cells", "spans", "best", "number", "robot", "far"]
theorem sc_nearest_free : FnScope N_nearest_free ["fleet", "cells"] (defScope s_nearest_free) := ⟨rfl, rfl, rfl, by decide +kernel, rfl, by decide +kernel, by decide +kernel⟩
abbrev N_next_order : List Str := ["fleet", "first", "number", "order", "robot"]
theorem sc_next_order : FnScope N_next_order ["fleet"] (defScope s_next_order) := ⟨rfl, rfl, rfl, by decide +kernel, rfl, by decide +kernel, by decide +kernel⟩
abbrev N_assign : List Str := ["fleet", "given", "turn", "pair"]
theorem sc_assign : FnScope N_assign ["fleet"] (defScope s_assign) := ⟨rfl, rfl, rfl, by decide +kernel, rfl, by decide +kernel, by decide +kernel⟩
abbrev N_robot_on : List Str := ["fleet", "position", "number", "robot"]
theorem sc_robot_on : FnScope N_robot_on ["fleet", "position"] (defScope s_robot_on) := ⟨rfl, rfl, rfl, by decide +kernel, rfl, by decide +kernel, by decide +kernel⟩
abbrev N_hindrance : List Str := ["fleet", "robot", "position", "moved", "other", "number", "cells", "ways", "cut"]
theorem sc_hindrance : FnScope N_hindrance ["fleet", "robot", "position"] (defScope s_hindrance) := ⟨rfl, rfl, rfl, by decide +kernel, rfl, by decide +kernel, by decide +kernel⟩
abbrev N_hindrances : List Str := ["fleet", "number", "robot", "found", "position", "reason"]
theorem sc_hindrances : FnScope N_hindrances ["fleet", "number", "robot"] (defScope s_hindrances) := ⟨rfl, rfl, rfl, by decide +kernel, rfl, by decide +kernel, by decide +kernel⟩
abbrev N_waits : List Str := ["fleet", "robot", "place", "number"]
theorem sc_waits : FnScope N_waits ["fleet", "robot"] (defScope s_waits) := ⟨rfl, rfl, rfl, by decide +kernel, rfl, by decide +kernel, by decide +kernel⟩
abbrev N_why_no_order : List Str := ["fleet", "start", "goal", "count"]
theorem sc_why_no_order : FnScope N_why_no_order ["fleet", "start", "goal"] (defScope s_why_no_order) := ⟨rfl, rfl, rfl, by decide +kernel, rfl, by decide +kernel, by decide +kernel⟩
abbrev N_why_not : List Str := ["fleet", "event", "kind", "robot", "broken", "waiting"]
theorem sc_why_not : FnScope N_why_not ["fleet", "event"] (defScope s_why_not) := ⟨rfl, rfl, rfl, by decide +kernel, rfl, by decide +kernel, by decide +kernel⟩
abbrev N_broken_down : List Str := ["fleet", "robot", "moved", "order"]
theorem sc_broken_down : FnScope N_broken_down ["fleet", "robot"] (defScope s_broken_down) := ⟨rfl, rfl, rfl, by decide +kernel, rfl, by decide +kernel, by decide +kernel⟩
abbrev N_happen : List Str := ["fleet", "event", "reason", "kind", "moved"]
theorem sc_happen : FnScope N_happen ["fleet", "event"] (defScope s_happen) := ⟨rfl, rfl, rfl, by decide +kernel, rfl, by decide +kernel, by decide +kernel⟩
abbrev N_run : List Str := ["fleet", "events", "line", "event", "refused"]
theorem sc_run : FnScope N_run ["fleet", "events"] (defScope s_run) := ⟨rfl, rfl, rfl, by decide +kernel, rfl, by decide +kernel, by decide +kernel⟩
abbrev N_Floor_init : List Str := ["self", "near", "doors", "stations", "places", "row", "column"]
theorem sc_Floor_init : FnScope N_Floor_init ["self", "near", "doors", "stations", "places"] (defScope s_Floor_init) := ⟨rfl, rfl, rfl, by decide +kernel, rfl, by decide +kernel, by decide +kernel⟩
abbrev N_Floor_around : List Str := ["self", "position", "row"]
theorem sc_Floor_around : FnScope N_Floor_around ["self", "position"] (defScope s_Floor_around) := ⟨rfl, rfl, rfl, by decide +kernel, rfl, by decide +kernel, by decide +kernel⟩
abbrev N_station_of : List Str := ["tile", "number"]
theorem sc_station_of : FnScope N_station_of ["tile"] (defScope s_station_of) := ⟨rfl, rfl, rfl, by decide +kernel, rfl, by decide +kernel, by decide +kernel⟩
abbrev N_is_tile : List Str := ["sign"]
theorem sc_is_tile : FnScope N_is_tile ["sign"] (defScope s_is_tile) := ⟨rfl, rfl, rfl, by decide +kernel, rfl, by decide +kernel, by decide +kernel⟩
abbrev N_is_cell : List Str := ["tile"]
theorem sc_is_cell : FnScope N_is_cell ["tile"] (defScope s_is_cell) := ⟨rfl, rfl, rfl, by decide +kernel, rfl, by decide +kernel, by decide +kernel⟩
abbrev N_is_door : List Str := ["tile"]
theorem sc_is_door : FnScope N_is_door ["tile"] (defScope s_is_door) := ⟨rfl, rfl, rfl, by decide +kernel, rfl, by decide +kernel, by decide +kernel⟩
abbrev N_row_problem : List Str := ["rows", "row"]
theorem sc_row_problem : FnScope N_row_problem ["rows", "row"] (defScope s_row_problem) := ⟨rfl, rfl, rfl, by decide +kernel, rfl, by decide +kernel, by decide +kernel⟩
abbrev N_tile_problem : List Str := ["rows", "row", "sign", "cells", "station"]
theorem sc_tile_problem : FnScope N_tile_problem ["rows", "row", "sign", "cells"] (defScope s_tile_problem) := ⟨rfl, rfl, rfl, by decide +kernel, rfl, by decide +kernel, by decide +kernel⟩
abbrev N_whole_problem : List Str := ["rows", "tiles", "tile", "numbers", "number"]
theorem sc_whole_problem : FnScope N_whole_problem ["rows"] (defScope s_whole_problem) := ⟨rfl, rfl, rfl, by decide +kernel, rfl, by decide +kernel, by decide +kernel⟩
abbrev N_scan : List Str := ["text", "rows", "row", "line", "column", "cells", "sign", "problem"]
theorem sc_scan : FnScope N_scan ["text"] (defScope s_scan) := ⟨rfl, rfl, rfl, by decide +kernel, rfl, by decide +kernel, by decide +kernel⟩
abbrev N_read_rows : List Str := ["text", "rows", "fault", "line", "column", "problem"]
theorem sc_read_rows : FnScope N_read_rows ["text"] (defScope s_read_rows) := ⟨rfl, rfl, rfl, by decide +kernel, rfl, by decide +kernel, by decide +kernel⟩
abbrev N_cells_of : List Str := ["rows", "places", "tiles", "line", "column"]
theorem sc_cells_of : FnScope N_cells_of ["rows"] (defScope s_cells_of) := ⟨rfl, rfl, rfl, by decide +kernel, rfl, by decide +kernel, by decide +kernel⟩
abbrev N_neighbors : List Str := ["places", "cell", "line", "column", "beside", "other"]
theorem sc_neighbors : FnScope N_neighbors ["places", "cell"] (defScope s_neighbors) := ⟨rfl, rfl, rfl, by decide +kernel, rfl, by decide +kernel, by decide +kernel⟩
abbrev N_read_floor : List Str := ["text", "places", "tiles", "cell", "near", "doors", "stations", "number", "row"]
theorem sc_read_floor : FnScope N_read_floor ["text"] (defScope s_read_floor) := ⟨rfl, rfl, rfl, by decide +kernel, rfl, by decide +kernel, by decide +kernel⟩
abbrev N_law_cell : List Str := ["_law_script", "_law_k"]
theorem sc_law_cell : FnScope N_law_cell ["_law_script", "_law_k"] (defScope s_law_cell) := ⟨rfl, rfl, rfl, by decide +kernel, rfl, by decide +kernel, by decide +kernel⟩
abbrev N_law_row : List Str := ["_law_cell_here", "_law_k", "_law_many", "_law_row_here", "_law_turn", "_law_seed"]
theorem sc_law_row : FnScope N_law_row ["_law_cell_here", "_law_k", "_law_many"] (defScope s_law_row) := ⟨rfl, rfl, rfl, by decide +kernel, rfl, by decide +kernel, by decide +kernel⟩
abbrev N_law_box : List Str := ["_law_script", "_law_first", "_law_last", "_law_row_here", "_law_k"]
theorem sc_law_box : FnScope N_law_box ["_law_script", "_law_first", "_law_last"] (defScope s_law_box) := ⟨rfl, rfl, rfl, by decide +kernel, rfl, by decide +kernel, by decide +kernel⟩
abbrev N_law_draw : List Str := ["_law_box_here", "_law_many", "_law_at"]
theorem sc_law_draw : FnScope N_law_draw ["_law_box_here", "_law_many"] (defScope s_law_draw) := ⟨rfl, rfl, rfl, by decide +kernel, rfl, by decide +kernel, by decide +kernel⟩
abbrev N_law_values : List Str := ["_law_script", "_law_first", "_law_many", "_law_values_here", "_law_k", "_law_cell_here"]
theorem sc_law_values : FnScope N_law_values ["_law_script", "_law_first", "_law_many"] (defScope s_law_values) := ⟨rfl, rfl, rfl, by decide +kernel, rfl, by decide +kernel, by decide +kernel⟩
abbrev N_law_tile : List Str := ["_law_value", "_law_shuts"]
theorem sc_law_tile : FnScope N_law_tile ["_law_value", "_law_shuts"] (defScope s_law_tile) := ⟨rfl, rfl, rfl, by decide +kernel, rfl, by decide +kernel, by decide +kernel⟩
abbrev N_law_renamed : List Str := ["_law_tile_here", "_law_letters", "_law_letter"]
theorem sc_law_renamed : FnScope N_law_renamed ["_law_tile_here", "_law_letters"] (defScope s_law_renamed) := ⟨rfl, rfl, rfl, by decide +kernel, rfl, by decide +kernel, by decide +kernel⟩
abbrev N_law_mended : List Str := ["_law_tiles", "_law_at", "_law_k", "_law_cells", "_law_doors", "_law_whole", "_law_letter", "_law_letters", "_law_tile_here"]
theorem sc_law_mended : FnScope N_law_mended ["_law_tiles", "_law_at"] (defScope s_law_mended) := ⟨rfl, rfl, rfl, by decide +kernel, rfl, by decide +kernel, by decide +kernel⟩
abbrev N_law_rows : List Str := ["_law_box_here", "_law_most", "_law_rows_here", "_law_columns", "_law_shuts", "_law_tiles", "_law_k"]
theorem sc_law_rows : FnScope N_law_rows ["_law_box_here", "_law_most"] (defScope s_law_rows) := ⟨rfl, rfl, rfl, by decide +kernel, rfl, by decide +kernel, by decide +kernel⟩
abbrev N_law_beside : List Str := ["_law_one", "_law_other", "_law_down", "_law_side"]
theorem sc_law_beside : FnScope N_law_beside ["_law_one", "_law_other"] (defScope s_law_beside) := ⟨rfl, rfl, rfl, by decide +kernel, rfl, by decide +kernel, by decide +kernel⟩
abbrev N_law_world : List Str := ["_law_rows_here", "_law_places", "_law_doors", "_law_stations", "_law_tiles", "_law_row_here", "_law_column", "_law_near", "_law_place", "_law_k", "_law_letter", "_law_cells"]
theorem sc_law_world : FnScope N_law_world ["_law_rows_here"] (defScope s_law_world) := ⟨rfl, rfl, rfl, by decide +kernel, rfl, by decide +kernel, by decide +kernel⟩
abbrev N_law_event : List Str := ["_law_value", "_law_stations", "_law_robots", "_law_kind", "_law_part", "_law_start_here"]
theorem sc_law_event : FnScope N_law_event ["_law_value", "_law_stations", "_law_robots"] (defScope s_law_event) := ⟨rfl, rfl, rfl, by decide +kernel, rfl, by decide +kernel, by decide +kernel⟩
abbrev N_law_moved : List Str := ["_law_fleet", "_law_event_here"]
theorem sc_law_moved : FnScope N_law_moved ["_law_fleet", "_law_event_here"] (defScope s_law_moved) := ⟨rfl, rfl, rfl, by decide +kernel, rfl, by decide +kernel, by decide +kernel⟩
abbrev N_law_then : List Str := ["_law_fleet", "_law_value", "_law_robots", "_law_event_here", "_law_k", "_law_moved_here"]
theorem sc_law_then : FnScope N_law_then ["_law_fleet", "_law_value"] (defScope s_law_then) := ⟨rfl, rfl, rfl, by decide +kernel, rfl, by decide +kernel, by decide +kernel⟩
abbrev N_law_history : List Str := ["_law_fleet", "_law_values_here", "_law_events", "_law_value", "_law_pair"]
theorem sc_law_history : FnScope N_law_history ["_law_fleet", "_law_values_here"] (defScope s_law_history) := ⟨rfl, rfl, rfl, by decide +kernel, rfl, by decide +kernel, by decide +kernel⟩
abbrev N_law_told : List Str := ["_law_fleet", "_law_robot", "_law_robots", "_law_order", "_law_orders"]
theorem sc_law_told : FnScope N_law_told ["_law_fleet"] (defScope s_law_told) := ⟨rfl, rfl, rfl, by decide +kernel, rfl, by decide +kernel, by decide +kernel⟩
abbrev N_law_start : List Str := ["_law_script", "_law_most", "_law_box_here", "_law_world_here", "_law_robots", "_law_fleet"]
theorem sc_law_start : FnScope N_law_start ["_law_script", "_law_most"] (defScope s_law_start) := ⟨rfl, rfl, rfl, by decide +kernel, rfl, by decide +kernel, by decide +kernel⟩
abbrev N_law : List Str := ["_law_script", "_law_start_here", "_law_fresh", "_law_found"]
theorem sc_law : FnScope N_law ["_law_script"] (defScope s_law) := ⟨rfl, rfl, rfl, by decide +kernel, rfl, by decide +kernel, by decide +kernel⟩
abbrev i_write_event : Nat := 0
abbrev i_read_number : Nat := 1
abbrev i_read_order : Nat := 2
abbrev i_read_event : Nat := 3
abbrev i_write_log : Nat := 4
abbrev i_read_log : Nat := 5
abbrev i_distances : Nat := 6
abbrev i_distance : Nat := 7
abbrev i_Robot_init : Nat := 8
abbrev i_Robot_twin : Nat := 9
abbrev i_Order_init : Nat := 10
abbrev i_Order_twin : Nat := 11
abbrev i_Order_give : Nat := 12
abbrev i_Order_load : Nat := 13
abbrev i_Order_release : Nat := 14
abbrev i_Order_finish : Nat := 15
abbrev i_Fleet_init : Nat := 16
abbrev i_Fleet_twin : Nat := 17
abbrev i_Fleet_closed : Nat := 18
abbrev i_Fleet_taken : Nat := 19
abbrev i_Fleet_running : Nat := 20
abbrev i_Fleet_kept_ways : Nat := 21
abbrev i_Fleet_order_of : Nat := 22
abbrev i_Fleet_aim : Nat := 23
abbrev i_Fleet_is_free : Nat := 24
abbrev i_Fleet_first_open : Nat := 25
abbrev i_links_of : Nat := 26
abbrev i_changed_links : Nat := 27
abbrev i_follow : Nat := 28
abbrev i_new_ways : Nat := 29
abbrev i_ahead_table : Nat := 30
abbrev i_next_spots : Nat := 31
abbrev i_explore : Nat := 32
abbrev i_path_to : Nat := 33
abbrev i_find_path : Nat := 34
abbrev i_search_cut : Nat := 35
abbrev i_add_way : Nat := 36
abbrev i_most_ways : Nat := 37
abbrev i_first_robot : Nat := 38
abbrev i_nearer_places : Nat := 39
abbrev i_step : Nat := 40
abbrev i_step_home : Nat := 41
abbrev i_handle : Nat := 42
abbrev i_plain_act : Nat := 43
abbrev i_first_goes : Nat := 44
abbrev i_careful_act : Nat := 45
abbrev i_idle_act : Nat := 46
abbrev i_act_of : Nat := 47
abbrev i_nearest_free : Nat := 48
abbrev i_next_order : Nat := 49
abbrev i_assign : Nat := 50
abbrev i_robot_on : Nat := 51
abbrev i_hindrance : Nat := 52
abbrev i_hindrances : Nat := 53
abbrev i_waits : Nat := 54
abbrev i_why_no_order : Nat := 55
abbrev i_why_not : Nat := 56
abbrev i_broken_down : Nat := 57
abbrev i_happen : Nat := 58
abbrev i_run : Nat := 59
abbrev i_Floor_init : Nat := 60
abbrev i_Floor_around : Nat := 61
abbrev i_station_of : Nat := 62
abbrev i_is_tile : Nat := 63
abbrev i_is_cell : Nat := 64
abbrev i_is_door : Nat := 65
abbrev i_row_problem : Nat := 66
abbrev i_tile_problem : Nat := 67
abbrev i_whole_problem : Nat := 68
abbrev i_scan : Nat := 69
abbrev i_read_rows : Nat := 70
abbrev i_cells_of : Nat := 71
abbrev i_neighbors : Nat := 72
abbrev i_read_floor : Nat := 73
abbrev i_law_cell : Nat := 74
abbrev i_law_row : Nat := 75
abbrev i_law_box : Nat := 76
abbrev i_law_draw : Nat := 77
abbrev i_law_values : Nat := 78
abbrev i_law_tile : Nat := 79
abbrev i_law_renamed : Nat := 80
abbrev i_law_mended : Nat := 81
abbrev i_law_rows : Nat := 82
abbrev i_law_beside : Nat := 83
abbrev i_law_world : Nat := 84
abbrev i_law_event : Nat := 85
abbrev i_law_moved : Nat := 86
abbrev i_law_then : Nat := 87
abbrev i_law_history : Nat := 88
abbrev i_law_told : Nat := 89
abbrev i_law_start : Nat := 90
abbrev i_law : Nat := 91
end Fl

set_option Elab.async false
set_option linter.all false
set_option maxRecDepth 100000
set_option maxHeartbeats 4000000
namespace Fl
open PySem PySem.Spec PyProof.Rows L2
/-- the context of a def's body -/
abbrev bx [c : Ctx] (d : He.DefD) (N : List Str) (f : Addr) (cdv : Value) (A : Around) (outer : List Env) (s : Shared) (H : Hp) (E : XK) : Cx :=
  (cxOf CX0 PP c.w c.K c.mg c.base N d.qual d.scope f cdv A outer s H E).nox
section
variable [c : Ctx] {α β : Type} [Args α] [Rp β] {pre : α → Prop} {post : α → β → Prop}
theorem inC_bx {d : He.DefD} {N : List Str} {f : Addr} {cdv : Value} {A : Around} {outer : List Env} {s : Shared} {H : Hp} {E : XK} {k : Nat} (hr : Room k (A.deeper (envOfC d.qual d.scope s.heap.objs.size f cdv))) : InC k (bx d N f cdv A outer s H E) :=
  ⟨rfl, rfl, rfl, rfl, rfl, hr, rfl⟩
/-- what is to be shown of a body -/
abbrev BodyOk (d : He.DefD) (N : List Str) (k : Nat) (pre : α → Prop) (post : α → β → Prop) : Prop :=
  ∀ (f : Addr) (cdv : Value) (A : Around) (outer : List Env) (s : Shared) (S : HS) (a : α) (Q : VK) (E : XK), pre a → InC k (bx d N f cdv A outer s S.H E) → (∀ (S1 : HS) (r : V) (y : β), Grow S S1 → Rp.rep S1.G r y → post a y → Q r S1.H) →
    SB (bx d N f cdv A outer s S.H E) d.body { nx := fun _ H' => Q .non H', rt := Q } (Args.gm a (N.length - Args.num α)) S
theorem fn_mk {d : He.DefD} {i : Nat} (hi : fn[i]? = some d) (hdf : d.dfl = []) (hkw : d.kwd = []) {N ps : List Str} (sc : FnScope N ps d.scope) {k : Nat} (hnum : Args.num α = ps.length) (body : BodyOk d N k pre post)
    (hb : ∀ (kV doc pm : Value) (an : Option Addr) (cdv ct : Value) (us : List Value), us.length = ps.length → bindArgs (PySem.W.fnOf d.name d.qual d.params d.body d.scope .none kV doc pm an cdv ct) ⟨us, []⟩ = pure (ps.zip us)) :
    ∃ fd, FnOk PP c.w c.K c.mg c.base CX0 (k + 1) (He.fAd c.K d.at_) fd ps (Spc pre post) ∧ PySem.W.keepIn c.K (.ref (He.fAd c.K d.at_)) = true ∧ Binds c.K fd ps [] := by
  obtain ⟨fd, F⟩ := c.says.d.def_ i hi
  have F' : FunD c.K d.name d.qual d.params d.body d.scope [] [] (He.fAd c.K d.at_) fd := by
    have e1 : d.dvs c.K = [] := by unfold He.DefD.dvs; rw [hdf]; rfl
    have e2 : d.kws c.K = [] := by unfold He.DefD.kws; rw [hkw]; rfl
    rw [e1, e2] at F
    exact F
  refine ⟨fd, F.ok sc (fun vs H Q E h => ?_) (fun cdv A outer s H vs Q E hr h => ?_), F.kp, F'.bindsN hb⟩
  · obtain ⟨S, a, _, hr, _⟩ := h
    rw [Args.len hr, hnum]
  · obtain ⟨S, a, rfl, ha, hp, hq⟩ := h
    refine ⟨_, PSs.nox pss_w, ?_⟩
    have hl : vs.length = Args.num α := Args.len ha
    have hs : Slots S.G (L2.start N vs) (Args.gm a (N.length - Args.num α)) := by
      unfold L2.start
      rw [hl]
      exact Args.sl ha
    exact body (He.fAd c.K d.at_) cdv A outer s S a Q E hp (inC_bx hr) hq _ hs
theorem mkCal {d : He.DefD} (i : Nat) {nm : Str} {N ps : List Str} {k : Nat} (sc : FnScope N ps d.scope) (hg : c.mg nm = some (.ref (He.ga c.K nm))) (body : BodyOk d N k pre post) (hi : fn[i]? = some d := by rfl) (hat : d.at_ = (nm, none) := by rfl) (hdf : d.dfl = [] := by rfl) (hkw : d.kwd = [] := by rfl)
    (hnum : Args.num α = ps.length := by rfl)
    (hb : ∀ (kV doc pm : Value) (an : Option Addr) (cdv ct : Value) (us : List Value), us.length = ps.length → bindArgs (PySem.W.fnOf d.name d.qual d.params d.body d.scope .none kV doc pm an cdv ct) ⟨us, []⟩ = pure (ps.zip us)) : Cal nm (k + 1) (Spc pre post) := by
  obtain ⟨fd, F, kp, b⟩ := fn_mk hi hdf hkw sc hnum body hb
  have e : He.fAd c.K d.at_ = He.ga c.K nm := by rw [hat]; rfl
  rw [e] at F kp
  exact ⟨_, fd, ps, F, hg, kp, b⟩
theorem mkMCal {d : He.DefD} (i : Nat) {C m : Str} {N ps : List Str} {k : Nat} (sc : FnScope N ps d.scope) (hm : Meth c.K (He.ga c.K C) m (He.ma c.K (He.ga c.K C) m)) (hc : Cls c.K (He.ga c.K C)) (body : BodyOk d N k pre post) (hi : fn[i]? = some d := by rfl) (hat : d.at_ = (C, some m) := by rfl)
    (hdf : d.dfl = [] := by rfl) (hkw : d.kwd = [] := by rfl) (hnum : Args.num α = ps.length := by rfl)
    (hb : ∀ (kV doc pm : Value) (an : Option Addr) (cdv ct : Value) (us : List Value), us.length = ps.length → bindArgs (PySem.W.fnOf d.name d.qual d.params d.body d.scope .none kV doc pm an cdv ct) ⟨us, []⟩ = pure (ps.zip us)) : MCal C m (k + 1) (Spc pre post) := by
  obtain ⟨fd, F, kp, b⟩ := fn_mk hi hdf hkw sc hnum body hb
  have e : He.fAd c.K d.at_ = He.ma c.K (He.ga c.K C) m := by rw [hat]; rfl
  rw [e] at F kp
  exact ⟨_, fd, ps, F, hm, hc, b⟩
end
end Fl

set_option Elab.async false
set_option linter.all false
set_option maxRecDepth 100000
set_option maxHeartbeats 4000000
namespace Fl
open PySem PySem.Spec PyProof.Rows L2
structure Rob where
  place : Int
  broken : Bool
  way : List Int
  deriving DecidableEq
structure Odr where
  start : Int
  goal : Int
  done : Bool
  robot : Option Int
  loaded : Bool
  deriving DecidableEq
structure Flo where
  near : List (List Int)
  doors : List Int
  stations : List (List Int)
  places : List (Int × Int)
  deriving DecidableEq
def Flo.size (f : Flo) : Int := f.near.length
def Flo.depot (f : Flo) : Int := f.near.length
structure Flt where
  floor : Flo
  patience : Int
  robots : List Rob
  orders : List Odr
  deriving DecidableEq
section
variable [c : Ctx]
def flRob (x : Rob) : List (Str × TV) := [("place", ⟨x.place⟩), ("broken", ⟨x.broken⟩), ("way", ⟨x.way⟩)]
instance rpRob : Rp Rob := ⟨fun H v x => repObj "Robot" (flRob x) H v, fun s h => h.mono s⟩
theorem lRob_place (x : Rob) : (flRob x).lookup ("place" : Str) = some ⟨x.place⟩ := by kernel_rfl
theorem lRob_broken (x : Rob) : (flRob x).lookup ("broken" : Str) = some ⟨x.broken⟩ := by kernel_rfl
theorem lRob_way (x : Rob) : (flRob x).lookup ("way" : Str) = some ⟨x.way⟩ := by kernel_rfl
theorem lRob_twin_no (x : Rob) : (flRob x).lookup ("twin" : Str) = none := by kernel_rfl
def flOdr (x : Odr) : List (Str × TV) := [("start", ⟨x.start⟩), ("goal", ⟨x.goal⟩), ("done", ⟨x.done⟩), ("robot", ⟨x.robot⟩), ("loaded", ⟨x.loaded⟩)]
instance rpOdr : Rp Odr := ⟨fun H v x => repObj "Order" (flOdr x) H v, fun s h => h.mono s⟩
theorem lOdr_start (x : Odr) : (flOdr x).lookup ("start" : Str) = some ⟨x.start⟩ := by kernel_rfl
theorem lOdr_goal (x : Odr) : (flOdr x).lookup ("goal" : Str) = some ⟨x.goal⟩ := by kernel_rfl
theorem lOdr_done (x : Odr) : (flOdr x).lookup ("done" : Str) = some ⟨x.done⟩ := by kernel_rfl
theorem lOdr_robot (x : Odr) : (flOdr x).lookup ("robot" : Str) = some ⟨x.robot⟩ := by kernel_rfl
theorem lOdr_loaded (x : Odr) : (flOdr x).lookup ("loaded" : Str) = some ⟨x.loaded⟩ := by kernel_rfl
theorem lOdr_twin_no (x : Odr) : (flOdr x).lookup ("twin" : Str) = none := by kernel_rfl
theorem lOdr_give_no (x : Odr) : (flOdr x).lookup ("give" : Str) = none := by kernel_rfl
theorem lOdr_load_no (x : Odr) : (flOdr x).lookup ("load" : Str) = none := by kernel_rfl
theorem lOdr_release_no (x : Odr) : (flOdr x).lookup ("release" : Str) = none := by kernel_rfl
theorem lOdr_finish_no (x : Odr) : (flOdr x).lookup ("finish" : Str) = none := by kernel_rfl
def flFlo (x : Flo) : List (Str × TV) := [("near", ⟨x.near⟩), ("size", ⟨x.size⟩), ("depot", ⟨x.depot⟩), ("doors", ⟨x.doors⟩), ("stations", ⟨x.stations⟩), ("places", ⟨x.places⟩)]
instance rpFlo : Rp Flo := ⟨fun H v x => repObj "Floor" (flFlo x) H v, fun s h => h.mono s⟩
theorem lFlo_near (x : Flo) : (flFlo x).lookup ("near" : Str) = some ⟨x.near⟩ := by kernel_rfl
theorem lFlo_size (x : Flo) : (flFlo x).lookup ("size" : Str) = some ⟨x.size⟩ := by kernel_rfl
theorem lFlo_depot (x : Flo) : (flFlo x).lookup ("depot" : Str) = some ⟨x.depot⟩ := by kernel_rfl
theorem lFlo_doors (x : Flo) : (flFlo x).lookup ("doors" : Str) = some ⟨x.doors⟩ := by kernel_rfl
theorem lFlo_stations (x : Flo) : (flFlo x).lookup ("stations" : Str) = some ⟨x.stations⟩ := by kernel_rfl
theorem lFlo_places (x : Flo) : (flFlo x).lookup ("places" : Str) = some ⟨x.places⟩ := by kernel_rfl
theorem lFlo_around_no (x : Flo) : (flFlo x).lookup ("around" : Str) = none := by kernel_rfl
def flFlt (x : Flt) : List (Str × TV) := [("floor", ⟨x.floor⟩), ("patience", ⟨x.patience⟩), ("robots", ⟨x.robots⟩), ("orders", ⟨x.orders⟩)]
instance rpFlt : Rp Flt := ⟨fun H v x => repObj "Fleet" (flFlt x) H v, fun s h => h.mono s⟩
theorem lFlt_floor (x : Flt) : (flFlt x).lookup ("floor" : Str) = some ⟨x.floor⟩ := by kernel_rfl
theorem lFlt_patience (x : Flt) : (flFlt x).lookup ("patience" : Str) = some ⟨x.patience⟩ := by kernel_rfl
theorem lFlt_robots (x : Flt) : (flFlt x).lookup ("robots" : Str) = some ⟨x.robots⟩ := by kernel_rfl
theorem lFlt_orders (x : Flt) : (flFlt x).lookup ("orders" : Str) = some ⟨x.orders⟩ := by kernel_rfl
theorem lFlt_twin_no (x : Flt) : (flFlt x).lookup ("twin" : Str) = none := by kernel_rfl
theorem lFlt_closed_no (x : Flt) : (flFlt x).lookup ("closed" : Str) = none := by kernel_rfl
theorem lFlt_taken_no (x : Flt) : (flFlt x).lookup ("taken" : Str) = none := by kernel_rfl
theorem lFlt_running_no (x : Flt) : (flFlt x).lookup ("running" : Str) = none := by kernel_rfl
theorem lFlt_kept_ways_no (x : Flt) : (flFlt x).lookup ("kept_ways" : Str) = none := by kernel_rfl
theorem lFlt_order_of_no (x : Flt) : (flFlt x).lookup ("order_of" : Str) = none := by kernel_rfl
theorem lFlt_aim_no (x : Flt) : (flFlt x).lookup ("aim" : Str) = none := by kernel_rfl
theorem lFlt_is_free_no (x : Flt) : (flFlt x).lookup ("is_free" : Str) = none := by kernel_rfl
theorem lFlt_first_open_no (x : Flt) : (flFlt x).lookup ("first_open" : Str) = none := by kernel_rfl
variable {X : Cx} {e : Expr} {Γ : Gm} {S : HS} {pos : Pos}
theorem eRob_place {k : Nat} [hX : InC k X] {x : Rob} (h : ER X e Γ S x) (hb : attributeBase e "place" X.env (eval e X.env) = eval e X.env := by rfl) : ER X (.Attribute e "place" pos) Γ S x.place := er_fld (cls := "Robot") (fl := flRob x) (t := ⟨x.place⟩) (fun _ _ h => h) (lRob_place x) c_Robot n_Robot_place h hb
theorem eRob_broken {k : Nat} [hX : InC k X] {x : Rob} (h : ER X e Γ S x) (hb : attributeBase e "broken" X.env (eval e X.env) = eval e X.env := by rfl) : ER X (.Attribute e "broken" pos) Γ S x.broken := er_fld (cls := "Robot") (fl := flRob x) (t := ⟨x.broken⟩) (fun _ _ h => h) (lRob_broken x) c_Robot n_Robot_broken h hb
theorem eRob_way {k : Nat} [hX : InC k X] {x : Rob} (h : ER X e Γ S x) (hb : attributeBase e "way" X.env (eval e X.env) = eval e X.env := by rfl) : ER X (.Attribute e "way" pos) Γ S x.way := er_fld (cls := "Robot") (fl := flRob x) (t := ⟨x.way⟩) (fun _ _ h => h) (lRob_way x) c_Robot n_Robot_way h hb
theorem eOdr_start {k : Nat} [hX : InC k X] {x : Odr} (h : ER X e Γ S x) (hb : attributeBase e "start" X.env (eval e X.env) = eval e X.env := by rfl) : ER X (.Attribute e "start" pos) Γ S x.start := er_fld (cls := "Order") (fl := flOdr x) (t := ⟨x.start⟩) (fun _ _ h => h) (lOdr_start x) c_Order n_Order_start h hb
theorem eOdr_goal {k : Nat} [hX : InC k X] {x : Odr} (h : ER X e Γ S x) (hb : attributeBase e "goal" X.env (eval e X.env) = eval e X.env := by rfl) : ER X (.Attribute e "goal" pos) Γ S x.goal := er_fld (cls := "Order") (fl := flOdr x) (t := ⟨x.goal⟩) (fun _ _ h => h) (lOdr_goal x) c_Order n_Order_goal h hb
theorem eOdr_done {k : Nat} [hX : InC k X] {x : Odr} (h : ER X e Γ S x) (hb : attributeBase e "done" X.env (eval e X.env) = eval e X.env := by rfl) : ER X (.Attribute e "done" pos) Γ S x.done := er_fld (cls := "Order") (fl := flOdr x) (t := ⟨x.done⟩) (fun _ _ h => h) (lOdr_done x) c_Order n_Order_done h hb
theorem eOdr_robot {k : Nat} [hX : InC k X] {x : Odr} (h : ER X e Γ S x) (hb : attributeBase e "robot" X.env (eval e X.env) = eval e X.env := by rfl) : ER X (.Attribute e "robot" pos) Γ S x.robot := er_fld (cls := "Order") (fl := flOdr x) (t := ⟨x.robot⟩) (fun _ _ h => h) (lOdr_robot x) c_Order n_Order_robot h hb
theorem eOdr_loaded {k : Nat} [hX : InC k X] {x : Odr} (h : ER X e Γ S x) (hb : attributeBase e "loaded" X.env (eval e X.env) = eval e X.env := by rfl) : ER X (.Attribute e "loaded" pos) Γ S x.loaded := er_fld (cls := "Order") (fl := flOdr x) (t := ⟨x.loaded⟩) (fun _ _ h => h) (lOdr_loaded x) c_Order n_Order_loaded h hb
theorem eFlo_near {k : Nat} [hX : InC k X] {x : Flo} (h : ER X e Γ S x) (hb : attributeBase e "near" X.env (eval e X.env) = eval e X.env := by rfl) : ER X (.Attribute e "near" pos) Γ S x.near := er_fld (cls := "Floor") (fl := flFlo x) (t := ⟨x.near⟩) (fun _ _ h => h) (lFlo_near x) c_Floor n_Floor_near h hb
theorem eFlo_size {k : Nat} [hX : InC k X] {x : Flo} (h : ER X e Γ S x) (hb : attributeBase e "size" X.env (eval e X.env) = eval e X.env := by rfl) : ER X (.Attribute e "size" pos) Γ S x.size := er_fld (cls := "Floor") (fl := flFlo x) (t := ⟨x.size⟩) (fun _ _ h => h) (lFlo_size x) c_Floor n_Floor_size h hb
theorem eFlo_depot {k : Nat} [hX : InC k X] {x : Flo} (h : ER X e Γ S x) (hb : attributeBase e "depot" X.env (eval e X.env) = eval e X.env := by rfl) : ER X (.Attribute e "depot" pos) Γ S x.depot := er_fld (cls := "Floor") (fl := flFlo x) (t := ⟨x.depot⟩) (fun _ _ h => h) (lFlo_depot x) c_Floor n_Floor_depot h hb
theorem eFlo_doors {k : Nat} [hX : InC k X] {x : Flo} (h : ER X e Γ S x) (hb : attributeBase e "doors" X.env (eval e X.env) = eval e X.env := by rfl) : ER X (.Attribute e "doors" pos) Γ S x.doors := er_fld (cls := "Floor") (fl := flFlo x) (t := ⟨x.doors⟩) (fun _ _ h => h) (lFlo_doors x) c_Floor n_Floor_doors h hb
theorem eFlo_stations {k : Nat} [hX : InC k X] {x : Flo} (h : ER X e Γ S x) (hb : attributeBase e "stations" X.env (eval e X.env) = eval e X.env := by rfl) : ER X (.Attribute e "stations" pos) Γ S x.stations := er_fld (cls := "Floor") (fl := flFlo x) (t := ⟨x.stations⟩) (fun _ _ h => h) (lFlo_stations x) c_Floor n_Floor_stations h hb
theorem eFlo_places {k : Nat} [hX : InC k X] {x : Flo} (h : ER X e Γ S x) (hb : attributeBase e "places" X.env (eval e X.env) = eval e X.env := by rfl) : ER X (.Attribute e "places" pos) Γ S x.places := er_fld (cls := "Floor") (fl := flFlo x) (t := ⟨x.places⟩) (fun _ _ h => h) (lFlo_places x) c_Floor n_Floor_places h hb
theorem eFlt_floor {k : Nat} [hX : InC k X] {x : Flt} (h : ER X e Γ S x) (hb : attributeBase e "floor" X.env (eval e X.env) = eval e X.env := by rfl) : ER X (.Attribute e "floor" pos) Γ S x.floor := er_fld (cls := "Fleet") (fl := flFlt x) (t := ⟨x.floor⟩) (fun _ _ h => h) (lFlt_floor x) c_Fleet n_Fleet_floor h hb
theorem eFlt_patience {k : Nat} [hX : InC k X] {x : Flt} (h : ER X e Γ S x) (hb : attributeBase e "patience" X.env (eval e X.env) = eval e X.env := by rfl) : ER X (.Attribute e "patience" pos) Γ S x.patience := er_fld (cls := "Fleet") (fl := flFlt x) (t := ⟨x.patience⟩) (fun _ _ h => h) (lFlt_patience x) c_Fleet n_Fleet_patience h hb
theorem eFlt_robots {k : Nat} [hX : InC k X] {x : Flt} (h : ER X e Γ S x) (hb : attributeBase e "robots" X.env (eval e X.env) = eval e X.env := by rfl) : ER X (.Attribute e "robots" pos) Γ S x.robots := er_fld (cls := "Fleet") (fl := flFlt x) (t := ⟨x.robots⟩) (fun _ _ h => h) (lFlt_robots x) c_Fleet n_Fleet_robots h hb
theorem eFlt_orders {k : Nat} [hX : InC k X] {x : Flt} (h : ER X e Γ S x) (hb : attributeBase e "orders" X.env (eval e X.env) = eval e X.env := by rfl) : ER X (.Attribute e "orders" pos) Γ S x.orders := er_fld (cls := "Fleet") (fl := flFlt x) (t := ⟨x.orders⟩) (fun _ _ h => h) (lFlt_orders x) c_Fleet n_Fleet_orders h hb
end
end Fl

set_option Elab.async false
set_option linter.all false
set_option maxRecDepth 100000
set_option maxHeartbeats 4000000
namespace Fl
open PySem PySem.Spec PyProof.Rows L2
/-! ### None or something -/
class NN (α : Type) [Rp α] : Prop where
  nn : ∀ {H : Hp} {v : V} {x : α}, Rp.rep H v x → v ≠ .non
instance : NN Int := ⟨fun h z => by cases (show _ = V.int _ from h); cases z⟩
instance : NN Str := ⟨fun h z => by cases (show _ = V.str _ from h); cases z⟩
instance {α : Type} [Rp α] : NN (List α) := ⟨fun ⟨_, _, e, _⟩ z => by rw [e] at z; cases z⟩
instance {α β : Type} [Rp α] [Rp β] : NN (α × β) := ⟨fun ⟨_, _, _, e, _⟩ z => by rw [e] at z; cases z⟩
section
variable {α β : Type} [Rp α] [Rp β] {X : Cx} {e a b : Expr} {Γ : Gm} {S : HS} {x : α}
theorem er_out (h : ER X e Γ S (some x)) : ER X e Γ S x := fun σ hσ S1 g Q k => h σ hσ S1 g Q fun S2 v g2 r => k S2 v g2 r.2
theorem er_some [NN α] (h : ER X e Γ S x) : ER X e Γ S (some x) := fun σ hσ S1 g Q k => h σ hσ S1 g Q fun S2 v g2 r => k S2 v g2 ⟨NN.nn r, r⟩
end
theorem rangeI_const {β : Type} (lo : Int) (n : Nat) (y : β) : (rangeI lo n).map (fun _ => y) = List.replicate n y := by
  unfold rangeI
  rw [List.map_map]
  exact List.map_const'.trans (by rw [List.length_range])
/-! ### floors -/
structure Flo.Ok (f : Flo) : Prop where
  few : f.near.length ≤ 120
  small : f.near.length ≤ 36
  near : ∀ r ∈ f.near, ∀ c ∈ r, 0 ≤ c ∧ c < f.size
  nearL : ∀ r ∈ f.near, r.length ≤ 120
  doors : ∀ c ∈ f.doors, 0 ≤ c ∧ c < f.size
  doorsL : f.doors.length ≤ 120
  st : ∀ r ∈ f.stations, ∀ c ∈ r, 0 ≤ c ∧ c < f.size
  stL : ∀ r ∈ f.stations, r.length ≤ 120
  stN : f.stations.length ≤ 8
def Flo.around (f : Flo) (p : Int) : List Int := if p = f.depot then f.doors else if p ∈ f.doors then f.near.getD p.toNat [] ++ [f.depot] else f.near.getD p.toNat []
theorem around_in {f : Flo} (h : f.Ok) {p : Int} (h0 : 0 ≤ p) (h1 : p ≤ f.size) : ∀ c ∈ f.around p, 0 ≤ c ∧ c ≤ f.size := by
  intro c hc
  unfold Flo.around at hc
  have nr : ∀ c ∈ f.near.getD p.toNat [], 0 ≤ c ∧ c < f.size := fun c hc => by
    rw [List.getD_eq_getElem?_getD] at hc
    cases e : f.near[p.toNat]? with
    | none => rw [e] at hc; simp at hc
    | some r =>
      rw [e] at hc
      exact h.near r (List.mem_of_getElem? e) c hc
  have nn : (0 : Int) ≤ f.size := by unfold Flo.size; omega
  split at hc
  · have := h.doors c hc
    omega
  · split at hc
    · rcases List.mem_append.mp hc with hc | hc
      · have := nr c hc
        omega
      · have e : c = f.depot := by simpa using hc
        subst e
        exact ⟨nn, Int.le_refl _⟩
    · have := nr c hc
      omega
theorem around_len {f : Flo} (h : f.Ok) (p : Int) : (f.around p).length ≤ 121 := by
  have nr : (f.near.getD p.toNat []).length ≤ 120 := by
    rw [List.getD_eq_getElem?_getD]
    cases e : f.near[p.toNat]? with
    | none => simp
    | some r => exact h.nearL r (List.mem_of_getElem? e)
  unfold Flo.around
  split
  · have := h.doorsL
    omega
  · split
    · rw [List.length_append]
      simp only [List.length_singleton]
      omega
    · omega
section
variable [c : Ctx]
def preAround (a : Flo × Int × Unit) : Prop := a.1.Ok ∧ 0 ≤ a.2.1 ∧ a.2.1 ≤ a.1.size
theorem cal_around : MCal "Floor" "around" 1 (Spf preAround fun a => a.1.around a.2.1) := by
  refine mkMCal (d := d_Floor_around) i_Floor_around sc_Floor_around m_Floor_around c_Floor (fun f cdv A outer s S a Q E hp hX hq => ?_) (hb := fun _ _ _ _ _ _ us hl => match us, hl with | [_, _], _ => rfl)
  obtain ⟨fl, p, ⟨⟩⟩ := a
  obtain ⟨ok, h0, h1⟩ : fl.Ok ∧ 0 ≤ p ∧ p ≤ fl.size := hp
  replace hq : ∀ S1 r y, Grow S S1 → Rp.rep S1.G r y → y = fl.around p → Q r S1.H := hq
  have nd := sc_Floor_around.nd
  show SB _ _ _ [some ⟨fl⟩, some ⟨p⟩, none] S
  refine s_if (tr_cmp (cv_eqI (er_var 1) (eFlo_depot (er_var 0)))) (fun t S1 g1 => ?_) (fun t S1 g1 => s_end ?_)
  · refine s_ret (er_list b_list (eFlo_doors (er_var 0))) fun S2 v g2 r => hq S2 v _ (g1.trans g2) r ?_
    unfold Flo.around
    rw [if_pos (of_decide_eq_true t)]
  · have hne : ¬ p = fl.depot := of_decide_eq_false t
    have hlt : p.toNat < fl.near.length := by
      have : fl.depot = fl.size := rfl
      unfold Flo.size at this h1
      omega
    have hg : fl.near[p.toNat]? = some (fl.near.getD p.toNat []) := by
      rw [List.getD_eq_getElem?_getD, List.getElem?_eq_getElem hlt]
      rfl
    refine s_setN 2 nd (en_list b_list (er_ix (eFlo_near (er_var 0)) (er_var 1) h0 hg)) fun S2 q g2 hq2 m2 => ?_
    have gg2 := g1.trans g2
    have q0 : S.H q = none := g1.h.free hq2
    refine s_if (tr_cmp (cv_inL (er_var 1) (eFlo_doors (er_var 0)))) (fun t S3 g3 => ?_) (fun t S3 g3 => s_end ?_)
    · refine s_app (m2.up g3) (er_var 2) (eFlo_depot (er_var 0)) (by have := ok.nearL _ (List.mem_of_getElem? hg); exact Nat.lt_of_le_of_lt this (by decide)) fun S4 u4 m4 => s_end ?_
      refine SB.fixM 2 ((gg2.trans g3).upd q0 u4) q0 m4 fun S5 e5 g5 _ _ => ?_
      refine s_ret (er_var 2) fun S6 v g6 r => hq S6 v _ (g5.trans g6) r ?_
      unfold Flo.around
      rw [if_neg hne, if_pos (of_decide_eq_true t)]
    · refine SB.fixM 2 (gg2.trans g3) q0 (m2.up g3) fun S5 e5 g5 _ _ => ?_
      refine s_ret (er_var 2) fun S6 v g6 r => hq S6 v _ (g5.trans g6) r ?_
      unfold Flo.around
      rw [if_neg hne, if_neg (of_decide_eq_false t)]
end
end Fl

set_option Elab.async false
set_option linter.all false
set_option maxRecDepth 100000
set_option maxHeartbeats 4000000
namespace Fl
open PySem PySem.Spec PyProof.Rows L2
/-! ### distances: what it makes -/
abbrev DSt := List (Option Int) × List Int
def dPut (closed : List Int) (d : Int) (st : DSt) (cell : Int) : DSt :=
  if cell ∉ closed ∧ st.1[cell.toNat]? = some none then (st.1.set cell.toNat (some d), st.2 ++ [cell]) else st
/-- how far pos is -/
def dAt (st : DSt) (pos : Int) : Int := ((st.1[pos.toNat]?).getD none).getD 0
def dTurn (closed : List Int) (pos : Int) (st : DSt) (other : Int) : DSt := dPut closed (dAt st pos + 1) st other
def dGo (f : Flo) (closed : List Int) : Nat → Nat → DSt → DSt
  | 0, _, st => st
  | n + 1, k, st => match st.2[k]? with
    | none => st
    | some pos => dGo f closed n (k + 1) ((f.around pos).foldl (dTurn closed pos) st)
def dStart (f : Flo) (closed aims : List Int) : DSt := (sortI aims).foldl (dPut closed 0) (List.replicate (f.near.length + 1) none, [])
def distances (f : Flo) (closed aims : List Int) : List (Option Int) := (dGo f closed (f.near.length + 1) 0 (dStart f closed aims)).1
/-- all is within the floor -/
structure DOk (f : Flo) (st : DSt) : Prop where
  len : st.1.length = f.near.length + 1
  q : ∀ c ∈ st.2, 0 ≤ c ∧ c ≤ f.size ∧ ∃ d, st.1[c.toNat]? = some (some d)
  nd : st.2.Nodup
theorem nodup_few : ∀ (n : Nat) (l : List Int), l.Nodup → (∀ c ∈ l, 0 ≤ c ∧ c < (n : Int)) → l.length ≤ n
  | 0, l, _, h => by
    cases l with
    | nil => exact Nat.le_refl _
    | cons x r =>
      have := h x List.mem_cons_self
      omega
  | n + 1, l, hd, h => by
    have h1 : (l.erase (n : Int)).length ≤ n := nodup_few n _ (hd.erase _) fun c hc => by
      have hc1 := h c (List.mem_of_mem_erase hc)
      have hc2 : c ≠ (n : Int) := fun z => by
        subst z
        exact (List.Nodup.mem_erase_iff hd).mp hc |>.1 rfl
      omega
    have h2 := List.length_erase (l := l) (a := (n : Int))
    by_cases hm : (n : Int) ∈ l
    · rw [if_pos hm] at h2
      omega
    · rw [if_neg hm] at h2
      omega
theorem DOk.few {f : Flo} {st : DSt} (h : DOk f st) : st.2.length ≤ f.near.length + 1 := nodup_few _ _ h.nd fun c hc => by
  have := h.q c hc
  unfold Flo.size at this
  omega
theorem DOk.put {f : Flo} {st : DSt} (h : DOk f st) {closed : List Int} {d cell : Int} (h0 : 0 ≤ cell) (h1 : cell ≤ f.size) : DOk f (dPut closed d st cell) := by
  unfold dPut
  split
  · rename_i hc
    have hl : cell.toNat < st.1.length := (List.getElem?_eq_some_iff.mp hc.2).1
    have hcq : cell ∉ st.2 := fun z => by
      obtain ⟨_, _, d, e⟩ := h.q cell z
      rw [hc.2] at e
      cases e
    refine ⟨by rw [List.length_set]; exact h.len, fun c hm => ?_, ?_⟩
    · rcases List.mem_append.mp hm with hm | hm
      · obtain ⟨a1, a2, d', e⟩ := h.q c hm
        have hne : cell.toNat ≠ c.toNat := fun z => by
          have e3 : cell = c := by omega
          exact hcq (by rw [e3]; exact hm)
        exact ⟨a1, a2, d', by rw [List.getElem?_set_ne hne]; exact e⟩
      · have e : c = cell := by simpa using hm
        subst e
        exact ⟨h0, h1, d, List.getElem?_set_self hl⟩
    · exact List.nodup_append.mpr ⟨h.nd, by simp, fun a ha b hb => by
        have e : b = cell := by simpa using hb
        subst e
        exact fun z => hcq (z ▸ ha)⟩
  · exact h
theorem DOk.start (f : Flo) : DOk f (List.replicate (f.near.length + 1) none, []) := ⟨by simp, by simp, by simp⟩
theorem DOk.foldPut {f : Flo} {closed : List Int} {d : Int} : ∀ (l : List Int) (st : DSt), DOk f st → (∀ c ∈ l, 0 ≤ c ∧ c ≤ f.size) → DOk f (l.foldl (dPut closed d) st)
  | [], _, h, _ => h
  | c :: r, st, h, hl => DOk.foldPut r _ (h.put (hl c List.mem_cons_self).1 (hl c List.mem_cons_self).2) fun x hx => hl x (List.mem_cons_of_mem _ hx)
theorem DOk.foldTurn {f : Flo} {closed : List Int} {pos : Int} : ∀ (l : List Int) (st : DSt), DOk f st → (∀ c ∈ l, 0 ≤ c ∧ c ≤ f.size) → DOk f (l.foldl (dTurn closed pos) st)
  | [], _, h, _ => h
  | c :: r, st, h, hl => DOk.foldTurn r _ (h.put (hl c List.mem_cons_self).1 (hl c List.mem_cons_self).2) fun x hx => hl x (List.mem_cons_of_mem _ hx)
theorem dGo_ok {f : Flo} (ok : f.Ok) {closed : List Int} : ∀ (n k : Nat) (st : DSt), DOk f st → DOk f (dGo f closed n k st)
  | 0, _, _, h => h
  | n + 1, k, st, h => by
    unfold dGo
    cases e : st.2[k]? with
    | none => exact h
    | some pos =>
      have hp := h.q pos (List.mem_of_getElem? e)
      exact dGo_ok ok n (k + 1) _ (h.foldTurn _ _ (around_in ok hp.1 hp.2.1))
theorem dStart_ok {f : Flo} {closed aims : List Int} (ha : ∀ c ∈ aims, 0 ≤ c ∧ c < f.size) : DOk f (dStart f closed aims) := (DOk.start f).foldPut _ _ fun c hc => by
  have := ha c ((sortI_perm aims).mem_iff.mp hc)
  omega
theorem distances_len {f : Flo} (ok : f.Ok) {closed aims : List Int} (ha : ∀ c ∈ aims, 0 ≤ c ∧ c < f.size) : (distances f closed aims).length = f.near.length + 1 := (dGo_ok ok _ _ _ (dStart_ok ha)).len
/-- what is in the queue stays there: the list grows at its end -/
theorem dPut_pre {closed : List Int} {d : Int} {st : DSt} {cell : Int} : ∃ m, (dPut closed d st cell).2 = st.2 ++ m := by
  unfold dPut
  split
  · exact ⟨[cell], rfl⟩
  · exact ⟨[], by simp⟩
theorem foldTurn_pre {closed : List Int} {pos : Int} : ∀ (l : List Int) (st : DSt), ∃ m, (l.foldl (dTurn closed pos) st).2 = st.2 ++ m
  | [], st => ⟨[], by simp⟩
  | c :: r, st => by
    obtain ⟨m, e⟩ := dPut_pre (closed := closed) (d := dAt st pos + 1) (st := st) (cell := c)
    obtain ⟨m2, e2⟩ := foldTurn_pre (closed := closed) (pos := pos) r (dTurn closed pos st c)
    have e3 : (dTurn closed pos st c).2 = st.2 ++ m := e
    exact ⟨m ++ m2, by rw [List.foldl_cons, e2, e3, List.append_assoc]⟩
section
variable [c : Ctx]
def preDist (a : Flo × List Int × List Int × Unit) : Prop := a.1.Ok ∧ (∀ x ∈ a.2.2.1, 0 ≤ x ∧ x < a.1.size) ∧ a.2.2.1.length ≤ 1000
theorem cal_distances : Cal "distances" 2 (Spf preDist fun a => distances a.1 a.2.1 a.2.2.1) := by
  refine mkCal (d := d_distances) i_distances sc_distances g_distances (fun f cdv A outer s S a Q E hp hX hq => ?_) (hb := fun _ _ _ _ _ _ us hl => match us, hl with | [_, _, _], _ => rfl)
  obtain ⟨fl, cl, aims, ⟨⟩⟩ := a
  obtain ⟨ok, ha, hal⟩ : fl.Ok ∧ (∀ x ∈ aims, 0 ≤ x ∧ x < fl.size) ∧ aims.length ≤ 1000 := hp
  replace hq : ∀ S1 r y, Grow S S1 → Rp.rep S1.G r y → y = distances fl cl aims → Q r S1.H := hq
  have nd := sc_distances.nd
  have few := ok.few
  show SB _ _ _ [some ⟨fl⟩, some ⟨cl⟩, some ⟨aims⟩, none, none, none, none, none, none] S
  -- found = [None ..]
  refine s_setLc (h := fun _ => (none : Option Int)) 4 3 rfl nd (it_range b_range (er_add (eFlo_size (er_var 0)) er_int) (by unfold Flo.size; omega)) (by rw [rangeI_len]; unfold Flo.size; omega) (blkOk_by (N := N_distances) (sc := defScope s_distances) (by decide +kernel)) (fun x hx S2 g2 X' hX' => er_non) (fun S1 p g1 p0 mp => ?_) (sw_true rfl rfl rfl (by decide +kernel))
  rw [rangeI_const, show (fl.size + 1).toNat = fl.near.length + 1 by unfold Flo.size; omega] at mp
  -- queue = []
  refine s_setN 5 nd (en_lst0 (α := Int)) fun S2 q g2 q0 mq => ?_
  have gg2 := g1.trans g2
  have q00 : S.H q = none := g1.h.free q0
  have npq : p ≠ q := fun z => (mp.ne q0) z.symm
  -- for cell in sorted(aims)
  refine s_for (α := Int) PassesOwn.never rfl (it_list (er_sorted b_sorted (er_var 2))) (bg_name 6 nd) fun S3 g3 => ?_
  refine ⟨fun r Γ' S' => ∃ st : DSt, Γ' = [some ⟨fl⟩, some ⟨cl⟩, some ⟨aims⟩, none, some ⟨(⟨p⟩ : Adr)⟩, some ⟨(⟨q⟩ : Adr)⟩, none, none, none] ∧ Grow S S' ∧ Same S3.G S'.G ∧ DOk fl st ∧ ML S' p st.1 ∧ ML S' q st.2 ∧ (∀ c ∈ r, 0 ≤ c ∧ c < fl.size) ∧ r.foldl (dPut cl 0) st = dStart fl cl aims,
    ⟨_, rfl, gg2.trans g3, Same.refl _, DOk.start fl, (mp.up g2).up g3, mq.up g3, fun c hc => ha c ((sortI_perm aims).mem_iff.mp hc), rfl⟩, fun r Γ' S' ⟨_, _, _, h, _⟩ => h, ?_, ?_⟩
  · rintro pre x r Γ' S' hx ⟨st, rfl, gS, s3, dok, m1, m2, hr, hf⟩ S4 g4
    have hx1 := hr x List.mem_cons_self
    have hl : x.toNat < st.1.length := by
      rw [dok.len]
      unfold Flo.size at hx1
      omega
    obtain ⟨o, ho⟩ : ∃ o, st.1[x.toNat]? = some o := ⟨_, List.getElem?_eq_getElem hl⟩
    have m1' := m1.up g4
    have m2' := m2.up g4
    refine s_if (tr_and (p2 := default) (tr_cmp (cv_niL (er_var 6) (er_var 1))) fun _ => tr_cmp (cv_isN (er_ixM m1' (er_var 4) (er_var 6) hx1.1 ho))) (fun t S5 g5 => ?_) (fun t S5 g5 => s_end ?_)
    · have t1 : x ∉ cl ∧ o = none := by simpa using t
      refine s_seti (m1'.up g5) (er_some er_int) (er_var 4) (er_var 6) hx1.1 (by unfold Flo.size at hx1; rw [dok.len]; omega) fun S6 u6 m6 => ?_
      have m2'' := (m2'.up g5).upd u6 npq.symm
      refine s_app m2'' (er_var 5) (er_var 6) (by have := dok.few; omega) fun S7 u7 m7 => s_end (s_next (.keep (.keep (.keep (.keep (.keep (.keep (.drop (.keep (.keep .nil))))))))) ?_)
      have e : dPut cl 0 st x = (st.1.set x.toNat (some 0), st.2 ++ [x]) := by
        unfold dPut
        rw [if_pos ⟨t1.1, by rw [ho, t1.2]⟩]
      refine ⟨dPut cl 0 st x, rfl, (((gS.trans g4).trans g5).upd p0 u6).upd q00 u7, ((s3.trans (g4.trans g5).g).trans u6.g).trans u7.g, dok.put hx1.1 (by omega), ?_, ?_, fun c hc => hr c (List.mem_cons_of_mem _ hc), hf⟩
      · rw [e]
        exact m6.upd u7 npq
      · rw [e]
        exact m7
    · have t1 : ¬ (x ∉ cl ∧ o = none) := fun ⟨a, b⟩ => by subst b; simp [a] at t
      have e : dPut cl 0 st x = st := by
        unfold dPut
        rw [if_neg (by rw [ho]; simpa using t1)]
      refine s_next (.keep (.keep (.keep (.keep (.keep (.keep (.drop (.keep (.keep .nil))))))))) ?_
      exact ⟨st, rfl, (gS.trans g4).trans g5, s3.trans (g4.trans g5).g, dok, m1'.up g5, m2'.up g5, fun c hc => hr c (List.mem_cons_of_mem _ hc), by rw [← hf, List.foldl_cons, e]⟩
  · rintro Γ' S' ⟨st, rfl, gS, s3, dok, m1, m2, _, hf⟩
    have hf : st = dStart fl cl aims := hf
    -- place = 0
    refine s_set 7 nd er_int fun S4 g4 => ?_
    refine s_while PassesOwn.never (fun m Γ' S' => ∃ (st : DSt) (k : Nat), Γ' = [some ⟨fl⟩, some ⟨cl⟩, some ⟨aims⟩, none, some ⟨(⟨p⟩ : Adr)⟩, some ⟨(⟨q⟩ : Adr)⟩, none, some ⟨(k : Int)⟩, none] ∧ m = fl.near.length + 1 - k ∧ k ≤ st.2.length ∧ Grow S S' ∧ DOk fl st ∧ ML S' p st.1 ∧ ML S' q st.2 ∧
      dGo fl cl (fl.near.length + 1 - k) k st = dGo fl cl (fl.near.length + 1) 0 (dStart fl cl aims)) _ ⟨st, 0, rfl, rfl, Nat.zero_le _, gS.trans g4, dok, m1.up g4, m2.up g4, by rw [hf]; rfl⟩ ?_
    rintro m Γ' S' ⟨st, k, rfl, rfl, hk, gS, dok, m1, m2, hf⟩
    have hfew := dok.few
    refine ⟨_, tr_cmp (cv_lt (er_var 7) (er_lenM b_len m2 (er_var 5))), fun t S5 g5 => ?_, fun t S5 g5 => ?_⟩
    · have hlt : k < st.2.length := by
        have := of_decide_eq_true t
        omega
      obtain ⟨pos, hpos⟩ : ∃ pos, st.2[k]? = some pos := ⟨_, List.getElem?_eq_getElem hlt⟩
      have hp := dok.q pos (List.mem_of_getElem? hpos)
      -- position = queue[place]
      refine s_set 3 nd (er_ixM (m2.up g5) (er_var 5) (er_var 7) (by omega) (by rw [Int.toNat_natCast]; exact hpos)) fun S6 g6 => ?_
      -- place += 1
      refine s_aug 7 nd rfl er_int fun S7 g7 => ?_
      have g57 := (g5.trans g6).trans g7
      have ar := around_in ok hp.1 hp.2.1
      -- for other in floor.around(position)
      refine s_for (α := Int) PassesOwn.never rfl (it_list (EV.er (ev_meth cal_around (fun _ _ h => h) (lFlo_around_no fl) (er_var 0) (ar_cons (er_var 3) ar_nil) ⟨ok, hp.1, hp.2.1⟩))) (bg_name 8 nd) fun S8 g8 => ?_
      refine ⟨fun r Γ' S' => ∃ st2 : DSt, Γ' = [some ⟨fl⟩, some ⟨cl⟩, some ⟨aims⟩, some ⟨pos⟩, some ⟨(⟨p⟩ : Adr)⟩, some ⟨(⟨q⟩ : Adr)⟩, none, some ⟨((k : Int) + 1)⟩, none] ∧ Grow S S' ∧ Same S8.G S'.G ∧ DOk fl st2 ∧ (∃ d, st2.1[pos.toNat]? = some (some d)) ∧ ML S' p st2.1 ∧ ML S' q st2.2 ∧
        (∀ c ∈ r, 0 ≤ c ∧ c ≤ fl.size) ∧ r.foldl (dTurn cl pos) st2 = (fl.around pos).foldl (dTurn cl pos) st,
        ⟨st, rfl, (gS.trans g57).trans g8, Same.refl _, dok, hp.2.2, (m1.up g57).up g8, (m2.up g57).up g8, ar, rfl⟩, fun r Γ' S' ⟨_, _, _, h, _⟩ => h, ?_, ?_⟩
      · rintro pre x r Γ' S' hx ⟨st2, rfl, gS, s8, dok2, ⟨d, hd⟩, m1, m2, hr, hf2⟩ S9 g9
        have hx1 := hr x List.mem_cons_self
        have hl : x.toNat < st2.1.length := by
          rw [dok2.len]
          unfold Flo.size at hx1
          omega
        obtain ⟨o, ho⟩ : ∃ o, st2.1[x.toNat]? = some o := ⟨_, List.getElem?_eq_getElem hl⟩
        have m1' := m1.up g9
        have m2' := m2.up g9
        have hda : dAt st2 pos = d := by
          unfold dAt
          rw [hd]
          rfl
        refine s_if (tr_and (p2 := default) (tr_cmp (cv_niL (er_var 8) (er_var 1))) fun _ => tr_cmp (cv_isN (er_ixM m1' (er_var 4) (er_var 8) hx1.1 ho))) (fun t S10 g10 => ?_) (fun t S10 g10 => s_end ?_)
        · have t1 : x ∉ cl ∧ o = none := by simpa using t
          refine s_seti (m1'.up g10) (er_some (er_add (er_out (er_ixM (m1'.up g10) (er_var 4) (er_var 3) hp.1 hd)) er_int)) (er_var 4) (er_var 8) hx1.1 (by unfold Flo.size at hx1; rw [dok2.len]; omega) fun S11 u11 m11 => ?_
          have m2'' := (m2'.up g10).upd u11 npq.symm
          refine s_app m2'' (er_var 5) (er_var 8) (by have := dok2.few; omega) fun S12 u12 m12 => s_end (s_next (.keep (.keep (.keep (.keep (.keep (.keep (.keep (.keep (.drop .nil))))))))) ?_)
          have e : dTurn cl pos st2 x = (st2.1.set x.toNat (some (d + 1)), st2.2 ++ [x]) := by
            unfold dTurn dPut
            rw [if_pos ⟨t1.1, by rw [ho, t1.2]⟩, hda]
          have hne : x.toNat ≠ pos.toNat := fun z => by
            rw [z, hd, t1.2] at ho
            cases ho
          refine ⟨dTurn cl pos st2 x, rfl, (((gS.trans g9).trans g10).upd p0 u11).upd q00 u12, ((s8.trans (g9.trans g10).g).trans u11.g).trans u12.g, dok2.put hx1.1 hx1.2, ?_, ?_, ?_, fun c hc => hr c (List.mem_cons_of_mem _ hc), hf2⟩
          · rw [e]
            exact ⟨d, by rw [List.getElem?_set_ne hne]; exact hd⟩
          · rw [e]
            exact m11.upd u12 npq
          · rw [e]
            exact m12
        · have t1 : ¬ (x ∉ cl ∧ o = none) := fun ⟨a, b⟩ => by subst b; simp [a] at t
          have e : dTurn cl pos st2 x = st2 := by
            unfold dTurn dPut
            rw [if_neg (by rw [ho]; simpa using t1)]
          refine s_next (.keep (.keep (.keep (.keep (.keep (.keep (.keep (.keep (.drop .nil))))))))) ?_
          exact ⟨st2, rfl, (gS.trans g9).trans g10, s8.trans (g9.trans g10).g, dok2, ⟨d, hd⟩, m1'.up g10, m2'.up g10, fun c hc => hr c (List.mem_cons_of_mem _ hc), by rw [← hf2, List.foldl_cons, e]⟩
      · rintro Γ' S' ⟨st2, rfl, gS, s8, dok2, hd, m1, m2, _, hf2⟩
        have hf2 : st2 = (fl.around pos).foldl (dTurn cl pos) st := hf2
        obtain ⟨mm, em⟩ := foldTurn_pre (closed := cl) (pos := pos) (fl.around pos) st
        refine s_next (.keep (.keep (.keep (.drop (.keep (.keep (.keep (.keep (.keep .nil))))))))) ?_
        refine ⟨fl.near.length + 1 - (k + 1), by omega, st2, k + 1, rfl, rfl, ?_, gS, dok2, m1, m2, ?_⟩
        · rw [hf2, em, List.length_append]
          omega
        · rw [← hf]
          have e : fl.near.length + 1 - k = (fl.near.length + 1 - (k + 1)) + 1 := by omega
          rw [e]
          conv => rhs; unfold dGo
          rw [hpos, hf2]
    · have hge : st.2.length ≤ k := by
        have := of_decide_eq_false t
        omega
      have hnone : st.2[k]? = none := List.getElem?_eq_none_iff.mpr hge
      have hend : ∀ n, dGo fl cl n k st = st := fun n => by
        cases n with
        | zero => rfl
        | succ n =>
          unfold dGo
          rw [hnone]
      refine SB.fixM 4 (gS.trans g5) p0 (m1.up g5) fun S6 e6 g6 _ _ => ?_
      refine s_ret (er_var 4) fun S7 v g7 r => hq S7 v _ (g6.trans g7) r ?_
      unfold distances
      rw [← hf, hend]
end
end Fl

set_option Elab.async false
set_option linter.all false
set_option maxRecDepth 100000
set_option maxHeartbeats 4000000
namespace Fl
open PySem PySem.Spec PyProof.Rows L2
/-! ### dicts by whole numbers -/
structure Dct (α : Type) where
  f : Int → Option α
def relD {α : Type} [Rp α] (H : Hp) (kvs : List (Key × V)) (f : Int → Option α) : Prop := ∀ k : Int, match valV kvs (Sum.inl k : Key), f k with
  | none, none => True
  | some v, some x => Rp.rep H v x
  | _, _ => False
theorem relD.mono {α : Type} [Rp α] {H H' : Hp} {kvs : List (Key × V)} {f : Int → Option α} (s : Same H H') (h : relD H kvs f) : relD H' kvs f := fun k => by
  have q := h k
  cases e1 : valV kvs (Sum.inl k : Key) with
  | none =>
    rw [e1] at q
    cases e2 : f k with
    | none => trivial
    | some x => rw [e2] at q; exact q
  | some v =>
    rw [e1] at q
    cases e2 : f k with
    | none => rw [e2] at q; exact q
    | some x => rw [e2] at q; exact Rp.mono s q
theorem relD.put {α : Type} [Rp α] {H : Hp} {kvs : List (Key × V)} {f : Int → Option α} (h : relD H kvs f) {k : Int} {v : V} {x : α} (r : Rp.rep H v x) : relD H (putK kvs (Sum.inl k : Key) v) (fun j => if j = k then some x else f j) := fun j => by
  rw [valV_put]
  dsimp only
  by_cases e : j = k
  · subst e
    rw [if_pos rfl, if_pos rfl]
    exact r
  · rw [if_neg (fun z => e (Sum.inl.inj z)), if_neg e]
    exact h j
theorem relD.some {α : Type} [Rp α] {H : Hp} {kvs : List (Key × V)} {f : Int → Option α} (h : relD H kvs f) {k : Int} {x : α} (e : f k = Option.some x) : ∃ v, valV kvs (Sum.inl k : Key) = Option.some v ∧ Rp.rep H v x := by
  have q := h k
  rw [e] at q
  cases e1 : valV kvs (Sum.inl k : Key) with
  | none => rw [e1] at q; exact q.elim
  | some v => rw [e1] at q; exact ⟨v, rfl, q⟩
theorem relD.isSome {α : Type} [Rp α] {H : Hp} {kvs : List (Key × V)} {f : Int → Option α} (h : relD H kvs f) (k : Int) : (valV kvs (Sum.inl k : Key)).isSome = (f k).isSome := by
  have q := h k
  cases e1 : valV kvs (Sum.inl k : Key) with
  | none =>
    rw [e1] at q
    cases e2 : f k with
    | none => rfl
    | some x => rw [e2] at q; exact q.elim
  | some v =>
    rw [e1] at q
    cases e2 : f k with
    | none => rw [e2] at q; exact q.elim
    | some x => rfl
instance {α : Type} [Rp α] : Rp (Dct α) := ⟨fun H v d => ∃ a kvs, v = .ref a ∧ H a = some (.dK kvs) ∧ relD H kvs d.f, fun s ⟨a, kvs, e, h, r⟩ => ⟨a, kvs, e, s _ _ h, r.mono s⟩⟩
/-- the dict at p, which may change; at most n entries -/
def MD {α : Type} [Rp α] (S : HS) (p : Addr) (f : Int → Option α) (n : Nat) : Prop := S.G p = none ∧ ∃ kvs, S.H p = some (.dK kvs) ∧ kvs.length ≤ n ∧ relD S.G kvs f
section
variable {α β : Type} [Rp α] [Rp β] {X : Cx} {e a b : Expr} {Γ : Gm} {S : HS} {x : α} {pos : Pos} {i j : Int} {f : Int → Option α} {n : Nat} {p : Addr} {D : Ends} {rest : List Stmt}
theorem MD.up {S1 : HS} (h : MD S p f n) (g : Grow S S1) : MD S1 p f n := by
  obtain ⟨h1, kvs, h2, h3, r⟩ := h
  exact ⟨g.n p (by rw [h2]; exact fun z => nomatch z) h1, kvs, g.h _ _ h2, h3, r.mono g.g⟩
theorem MD.there (h : MD S p f n) : S.H p ≠ none := by
  obtain ⟨_, kvs, h2, _⟩ := h
  rw [h2]
  exact fun z => nomatch z
theorem MD.fixed {S0 : HS} (h : MD S p f n) (gg : Grow S0 S) (h0 : S0.H p = none) : ∃ S' : HS, S'.H = S.H ∧ Grow S0 S' ∧ Same S.G S'.G ∧ Rp.rep S'.G (.ref p) (⟨f⟩ : Dct α) ∧ ∀ q, q ≠ p → S.G q = none → S'.G q = none := by
  obtain ⟨h1, kvs, h2, _, r⟩ := h
  exact ⟨S.fix p _ h1 h2, rfl, gg.fix h0 h1 h2, same_new h1, ⟨p, kvs, rfl, upd_same, r.mono (show Same S.G (L2.upd S.G p (.dK kvs)) from same_new h1)⟩, fun q hq e => by show L2.upd S.G p _ q = none; rw [upd_ne hq]; exact e⟩
theorem SB.fixD {S0 : HS} {sts : List Stmt} (i : Nat) (gg : Grow S0 S) (h0 : S0.H p = none) (hM : MD S p f n) (k : ∀ S' : HS, S'.H = S.H → Grow S0 S' → Same S.G S'.G → (∀ q, q ≠ p → S.G q = none → S'.G q = none) → SB X sts D (Γ.set i (some ⟨(⟨f⟩ : Dct α)⟩)) S')
    (hΓ : Γ[i]? = some (some ⟨(⟨p⟩ : Adr)⟩) := by rfl) : SB X sts D Γ S := fun σ hσ => by
  obtain ⟨S', e, g', s', r, hn⟩ := hM.fixed gg h0
  obtain ⟨v, e1, rv⟩ := hσ.at_ i _ hΓ
  have ev : v = .ref p := rv
  subst ev
  have es : σ.set i (some (.ref p)) = σ := by
    obtain ⟨hl, e2⟩ := List.getElem?_eq_some_iff.mp e1
    rw [← e2, List.set_getElem_self]
  have q := k S' e g' s' hn σ (by rw [← es]; exact (hσ.mono s').set i (t := ⟨(⟨f⟩ : Dct α)⟩) r)
  rw [e] at q
  exact q
theorem s_newD {nm : Str} {pos' pos2 : Pos} (α : Type) [Rp α] (i : Nat) (hN : X.N.Nodup) (k : ∀ (S1 : HS) (p : Addr), Grow S S1 → S.H p = none → MD S1 p (fun _ => (none : Option α)) 0 → SB X rest D (Γ.set i (some ⟨(⟨p⟩ : Adr)⟩)) S1)
    (hi : X.N[i]? = some nm := by rfl) (hx : Loc X.env.scope nm := by first | exact Or.inl rfl | exact Or.inr rfl) (hs : swapsWith (.Dict [] [] pos2) (some (.Name nm pos')) pos.line X.env = pure false := by rfl)
    (hf : X.fn nm = true ∨ X.env.scope.names.lookup nm = some .local := by first | exact .inl rfl | exact .inr rfl) : SB X (.Assign [.Name nm pos'] (.Dict [] [] pos2) pos :: rest) D Γ S := fun σ hσ =>
  w_cons (w_ps (ps_set hN hi hx pe_dnewK hs hf) fun p hp => k (S.add p (.dK []) (S.le.free hp)) p (.add S p _ hp) hp ⟨S.le.free hp, [], upd_same, Nat.le_refl _, fun _ => trivial⟩ _ (Slots.set (t := ⟨(⟨p⟩ : Adr)⟩) (hσ.mono (Same.refl _)) i rfl))
theorem unit_ok [Ctx] {k : Nat} (hX : InC k X) : X.A.units + 1 < cLine := hu_of hX.room
/-- d[i] = e -/
theorem s_dput [Ctx] {k0 : Nat} [hX : InC k0 X] {pos' : Pos} (hm : MD S p f n) (he : ER X e Γ S x) (ha : ER X a Γ S (⟨p⟩ : Adr)) (hb : ER X b Γ S i) (hn : n < 100000)
    (k : ∀ S2 : HS, Upd S p S2 → MD S2 p (fun j => if j = i then some x else f j) (n + 1) → SB X rest D Γ S2) (hs : swapsWith e (some (.Subscript a b pos')) pos.line X.env = pure false := by rfl) : SB X (.Assign [.Subscript a b pos'] e pos :: rest) D Γ S := fun σ hσ => by
  refine w_cons (w_ps (ps_dput (unit_ok hX) pe_w pe_w pe_w hs) (he σ hσ S (.refl _) _ fun S1 w g1 rw' => ha σ hσ S1 g1 _ fun S2 u g2 ru => hb σ hσ S2 (g1.trans g2) _ fun S3 v g3 rv => ?_))
  obtain ⟨n3, kvs, h3, hl, r3⟩ := hm.up ((g1.trans g2).trans g3)
  cases (show v = V.int i from rv)
  refine ⟨p, _, ru, DPut.k (k := Sum.inl i) h3 (Nat.lt_of_le_of_lt hl (Nat.lt_of_lt_of_le hn (by decide))), ?_⟩
  exact k (S3.add p (.dK (putK kvs (Sum.inl i) w)) n3) ((Upd.add n3).after ((g1.trans g2).trans g3)) ⟨n3, _, upd_same, by have := length_putK kvs (Sum.inl i : Key) w; omega, r3.put (Rp.mono (g2.trans g3).g rw')⟩ σ (hσ.mono ((g1.trans g2).trans g3).g)
theorem rd_of {G H : Hp} {a : Addr} {o : HO} (s : Same G H) (h : G a = some o) : Rd H a o := .inl (s _ _ h)
/-- i in d -/
theorem cv_inD [Ctx] {k0 : Nat} [hX : InC k0 X] {d : Dct α} (ha : ER X a Γ S i) (hb : ER X b Γ S d) : ∃ t, PC X .In a b t ∧ ∀ σ, Slots S.G σ Γ → ∀ S1, Grow S S1 → ∀ Q : VK, (∀ S2, Grow S1 S2 → Q (.bl (d.f i).isSome) S2.H) → t σ S1.H Q :=
  ⟨_, pc_din (unit_ok hX) pe_w pe_w, fun σ hσ S1 g Q k => ha σ hσ S1 g _ fun S2 v g2 rv => hb σ hσ S2 (g.trans g2) _ fun S3 u g3 ⟨q, kvs, e1, e2, r⟩ => by
    cases (show v = V.int i from rv)
    exact ⟨q, _, e1, .inl ⟨kvs, Sum.inl i, rd_of S3.le e2, rfl, rfl⟩, by rw [r.isSome]; exact k S3 (g2.trans g3)⟩⟩
theorem tr_inD [Ctx] {k0 : Nat} [hX : InC k0 X] {d : Dct α} (ha : ER X a Γ S i) (hb : ER X b Γ S d) (h1 : behindInMarks .In b = false := by rfl) : TR X (.Compare a [.In] [b] pos) Γ S (d.f i).isSome := by
  obtain ⟨t, h, q⟩ := cv_inD ha hb
  exact fun σ hσ S1 g Q k => w_pt (pt_cmp h h1) (q σ hσ S1 g _ fun S2 g2 => ⟨_, rfl, k S2 g2⟩)
theorem tr_niD [Ctx] {k0 : Nat} [hX : InC k0 X] {d : Dct α} (ha : ER X a Γ S i) (hb : ER X b Γ S d) (h1 : behindInMarks .NotIn b = false := by rfl) : TR X (.Compare a [.NotIn] [b] pos) Γ S (!(d.f i).isSome) := fun σ hσ S1 g Q k =>
  w_pt (pt_cmp (pc_dnotin (unit_ok hX) pe_w pe_w) h1) (ha σ hσ S1 g _ fun S2 v g2 rv => hb σ hσ S2 (g.trans g2) _ fun S3 u g3 ⟨q, kvs, e1, e2, r⟩ => by
    cases (show v = V.int i from rv)
    exact ⟨q, _, e1, .inl ⟨kvs, Sum.inl i, rd_of S3.le e2, rfl, rfl⟩, _, rfl, by rw [r.isSome]; exact k S3 (g2.trans g3)⟩)
/-- d[i] -/
theorem er_dget [Ctx] {k0 : Nat} [hX : InC k0 X] {d : Dct α} (ha : ER X a Γ S d) (hb : ER X b Γ S i) (h : d.f i = some x) (hs : NoSl b := by exact fun _ _ => rfl) : ER X (.Subscript a b pos) Γ S x := fun σ hσ S1 g Q k =>
  w_pe (pe_dget (unit_ok hX) pe_w pe_w hs) (ha σ hσ S1 g _ fun S2 u g2 ru => hb σ hσ S2 (g.trans g2) _ fun S3 v g3 rv => by
    obtain ⟨q, kvs, e1, e2, r⟩ := Rp.mono g3.g ru
    cases (show v = V.int i from rv)
    obtain ⟨w, h1, h2⟩ := r.some h
    exact ⟨q, w, e1, .inl ⟨kvs, Sum.inl i, rd_of S3.le e2, rfl, h1.symm⟩, k S3 w (g2.trans g3) h2⟩)
end

/-! ### instances that change -/
def putT (f : Str) (t : TV) : List (Str × TV) → List (Str × TV)
  | [] => [(f, t)]
  | (g, x) :: r => if g = f then (g, t) :: r else (g, x) :: putT f t r
theorem fldsR.put {H : Hp} {f : Str} {v : V} {t : TV} (r : t.inst.rep H v t.x) {fs : List (Str × V)} {fl : List (Str × TV)} (h : fldsR H fs fl) : fldsR H (putF f v fs) (putT f t fl) := by
  induction h with
  | nil => exact .cons r .nil
  | @cons n u t2 fs fl a q ih =>
    unfold putF putT
    by_cases e : n = f
    · rw [if_pos e, if_pos e]
      exact .cons r q
    · rw [if_neg e, if_neg e]
      exact .cons a ih
theorem fldsR.len {H : Hp} {fs : List (Str × V)} {fl : List (Str × TV)} (h : fldsR H fs fl) : fs.length = fl.length := by
  induction h with
  | nil => rfl
  | cons _ _ ih => rw [List.length_cons, List.length_cons, ih]
section
variable [c : Ctx]
/-- the instance at p, which may change -/
def MI (S : HS) (p : Addr) (cls : Str) (fl : List (Str × TV)) : Prop := S.G p = none ∧ ∃ dx fs, S.H p = some (.ins (He.ga c.K cls) dx fs) ∧ fldsR S.G fs fl
variable {X : Cx} {e a b o : Expr} {Γ : Gm} {S : HS} {pos : Pos} {p : Addr} {cls : Str} {fl : List (Str × TV)} {D : Ends} {rest : List Stmt}
theorem MI.up {S1 : HS} (h : MI S p cls fl) (g : Grow S S1) : MI S1 p cls fl := by
  obtain ⟨h1, dx, fs, h2, r⟩ := h
  exact ⟨g.n p (by rw [h2]; exact fun z => nomatch z) h1, dx, fs, g.h _ _ h2, r.mono g.g⟩
theorem MI.upd {S2 : HS} {q : Addr} (h : MI S p cls fl) (u : Upd S q S2) (ne : p ≠ q) : MI S2 p cls fl := by
  obtain ⟨h1, dx, fs, h2, r⟩ := h
  exact ⟨u.n p (by rw [h2]; exact fun z => nomatch z) h1, dx, fs, u.h p ne _ h2, r.mono u.g⟩
theorem MI.there (h : MI S p cls fl) : S.H p ≠ none := by
  obtain ⟨_, dx, fs, h2, _⟩ := h
  rw [h2]
  exact fun z => nomatch z
theorem MI.fixed {S0 : HS} (h : MI S p cls fl) (gg : Grow S0 S) (h0 : S0.H p = none) : ∃ S' : HS, S'.H = S.H ∧ Grow S0 S' ∧ Same S.G S'.G ∧ repObj cls fl S'.G (.ref p) ∧ ∀ q, q ≠ p → S.G q = none → S'.G q = none := by
  obtain ⟨h1, dx, fs, h2, r⟩ := h
  exact ⟨S.fix p _ h1 h2, rfl, gg.fix h0 h1 h2, same_new h1, ⟨p, dx, fs, rfl, upd_same, r.mono (show Same S.G (L2.upd S.G p _) from same_new h1)⟩, fun q hq e => by show L2.upd S.G p _ q = none; rw [upd_ne hq]; exact e⟩
/-- o.f = e -/
theorem s_fld {k0 : Nat} [hX : InC k0 X] {f : Str} {t : TV} {pos' : Pos} (hm : MI S p cls fl) (he : @ER t.α t.inst X e Γ S t.x) (ho : ER X o Γ S (⟨p⟩ : Adr)) (hc : Cls c.K (He.ga c.K cls)) (hn : NoAttr c.K (He.ga c.K cls) f) (hl : Nat.ble (fl.length + 1) 100 = true)
    (k : ∀ S2 : HS, Upd S p S2 → MI S2 p cls (putT f t fl) → SB X rest D Γ S2) (hs : swapsWith e (some (.Attribute o f pos')) pos.line X.env = pure false := by rfl) : SB X (.Assign [.Attribute o f pos'] e pos :: rest) D Γ S := fun σ hσ => by
  refine w_cons (w_ps (ps_fld pe_w pe_w hs) (he σ hσ S (.refl _) _ fun S1 w g1 rw' => ho σ hσ S1 g1 _ fun S2 u g2 ru => ?_))
  obtain ⟨n3, dx, fs, h3, r3⟩ := hm.up (g1.trans g2)
  refine ⟨p, _, dx, fs, ru, h3, by rw [hX.K]; exact hc, by rw [hX.K]; exact hn, by rw [r3.len]; have := Nat.le_of_ble_eq_true hl; omega, ?_⟩
  exact k (S2.add p (.ins (He.ga c.K cls) dx (putF f w fs)) n3) ((Upd.add n3).after (g1.trans g2)) ⟨n3, dx, _, upd_same, r3.put (t.inst.mono g2.g rw')⟩ σ (hσ.mono (g1.trans g2).g)
/-- o.f of an instance that may change -/
theorem er_fldM {k0 : Nat} [hX : InC k0 X] {f : Str} {t : TV} (hm : MI S p cls fl) (hl : fl.lookup f = some t) (hc : Cls c.K (He.ga c.K cls)) (hn : NoAttr c.K (He.ga c.K cls) f)
    (h : ER X e Γ S (⟨p⟩ : Adr)) (hb : attributeBase e f X.env (eval e X.env) = eval e X.env := by rfl) : @ER t.α t.inst X (.Attribute e f pos) Γ S t.x := fun σ hσ S1 g Q k =>
  w_pe (pe_fld pe_w hb) (h σ hσ S1 g _ fun S2 v g2 r => by
    obtain ⟨_, dx, fs, e2, r2⟩ := hm.up (g.trans g2)
    obtain ⟨u, h1, h2⟩ := r2.look hl
    exact ⟨p, _, dx, fs, u, r, e2, by rw [hX.K]; exact hc, by rw [hX.K]; exact hn, h1, k S2 u g2 h2⟩)
/-- a method that changes its own instance: from fl x to fl (g x d) -/
def SpM {α δ : Type} [Args δ] (cls : Str) (fl : α → List (Str × TV)) (g : α → δ → α) : Sp := fun vs H Q _ =>
  ∃ (S : HS) (p : Addr) (x : α) (d : δ) (r : List V), S.H = H ∧ vs = .ref p :: r ∧ Args.reps S.G r d ∧ MI S p cls (fl x) ∧ ∀ S1 : HS, Upd S p S1 → MI S1 p cls (fl (g x d)) → Q .non S1.H
theorem s_methM {α δ : Type} [Args δ] {k j : Nat} {m : Str} {fl : α → List (Str × TV)} {g : α → δ → α} {x : α} {d : δ} {apos pos' : Pos} {es : List Expr} {pl : Sem Bool} [hX : InC k X] (M : MCal cls m j (SpM cls fl g)) (hm : MI S p cls (fl x)) (hl : (fl x).lookup m = none)
    (ho : ER X o Γ S (⟨p⟩ : Adr)) (ha : AR X (e :: es) Γ S d) (kk : ∀ S2 : HS, Upd S p S2 → MI S2 p cls (fl (g x d)) → SB X rest D Γ S2) (hj : j ≤ k := by decide) (hs : swapsWith (.Call (.Attribute o m apos) (e :: es) [] pos) none pos'.line X.env = pure false := by rfl)
    (hst : starEach (e :: es) X.env = (false, eval e X.env) :: starEach es X.env := by rfl) (hpl : (backTo pos (starEach es X.env)).any (·.1) = false := by rfl)
    (ht : eval (.Call (.Attribute o m apos) (e :: es) [] pos) X.env = (do
      let ov ← eval o X.env
      standAt apos.atName
      let (f, first) ← holding [ov] (getMethod ov m pl)
      callWith pos f first (backTo pos (starEach (e :: es) X.env)) (backToKw pos (keywordEach [] X.env))) := by rfl) : SB X (.Expr (.Call (.Attribute o m apos) (e :: es) [] pos) pos' :: rest) D Γ S := fun σ hσ => by
  obtain ⟨f, fd, ps, F, hme, hc, hb⟩ := M.ex
  refine w_cons (w_ps (ps_expr (pe_meth pe_w (by rw [hX.K]; exact hc) (by rw [hX.K]; exact hme) (fn_in hX F) (hX.room.mono hj) (by rw [hX.K]; exact hb) .nil pass0 pa_w hst hpl ht) hs) (ho σ hσ S (.refl _) _ fun S1 v g1 r => ?_))
  obtain ⟨_, dx, fs, e2, r2⟩ := hm.up g1
  refine ⟨p, dx, fs, r, e2, r2.no hl, ha σ hσ S1 g1 _ fun S2 vs g2 r3 => ⟨S2, p, x, d, vs, rfl, by rw [List.append_nil, show v = V.ref p from r], r3, hm.up (g1.trans g2), fun S3 u3 m3 => ?_⟩⟩
  exact kk S3 (u3.after (g1.trans g2)) m3 σ (hσ.mono ((g1.trans g2).g.trans u3.g))
theorem s_methM0 {α : Type} {k j : Nat} {m : Str} {fl : α → List (Str × TV)} {g : α → Unit → α} {x : α} {apos pos' : Pos} {pl : Sem Bool} [hX : InC k X] (M : MCal cls m j (SpM cls fl g)) (hm : MI S p cls (fl x)) (hl : (fl x).lookup m = none)
    (ho : ER X o Γ S (⟨p⟩ : Adr)) (kk : ∀ S2 : HS, Upd S p S2 → MI S2 p cls (fl (g x ())) → SB X rest D Γ S2) (hj : j ≤ k := by decide) (hs : swapsWith (.Call (.Attribute o m apos) [] [] pos) none pos'.line X.env = pure false := by rfl)
    (ht : eval (.Call (.Attribute o m apos) [] [] pos) X.env = (do
      let ov ← eval o X.env
      standAt apos.atName
      let (f, first) ← holding [ov] (getMethod ov m pl)
      callWith pos f first (backTo pos (starEach [] X.env)) (backToKw pos (keywordEach [] X.env))) := by rfl) : SB X (.Expr (.Call (.Attribute o m apos) [] [] pos) pos' :: rest) D Γ S := fun σ hσ => by
  obtain ⟨f, fd, ps, F, hme, hc, hb⟩ := M.ex
  refine w_cons (w_ps (ps_expr (pe_meth0 pe_w (by rw [hX.K]; exact hc) (by rw [hX.K]; exact hme) (fn_in hX F) (hX.room.mono hj) (by rw [hX.K]; exact hb) .nil pass0 ht) hs) (ho σ hσ S (.refl _) _ fun S1 v g1 r => ?_))
  obtain ⟨_, dx, fs, e2, r2⟩ := hm.up g1
  refine ⟨p, dx, fs, r, e2, r2.no hl, S1, p, x, (), [], rfl, by rw [show v = V.ref p from r]; rfl, rfl, hm.up g1, fun S3 u3 m3 => ?_⟩
  exact kk S3 (u3.after g1) m3 σ (hσ.mono (g1.g.trans u3.g))
end
end Fl

set_option Elab.async false
set_option linter.all false
set_option maxRecDepth 100000
set_option maxHeartbeats 4000000
namespace Fl
open PySem PySem.Spec PyProof.Rows L2
section
variable [c : Ctx]
/-! ### a new instance -/
/-- __init__: from a bare instance to the attributes fl d -/
def SpI {δ : Type} [Args δ] (cls : Str) (fl : δ → List (Str × TV)) (pre : δ → Prop := fun _ => True) : Sp := fun vs H Q _ =>
  ∃ (S : HS) (p : Addr) (d : δ) (r : List V), S.H = H ∧ vs = .ref p :: r ∧ Args.reps S.G r d ∧ pre d ∧ MI S p cls [] ∧ ∀ S1 : HS, Upd S p S1 → MI S1 p cls (fl d) → Q .non S1.H
structure ICal (cls : Str) (k : Nat) (sp : Sp) (dvs : List V) : Prop where
  ex : ∃ f fd ps ds, FnOk PP c.w c.K c.mg c.base CX0 k f fd ps sp ∧ Mk c.K (He.ga c.K cls) f ∧ c.mg cls = some (.ref (He.ga c.K cls)) ∧ Binds c.K fd ps ds ∧ Vals dvs ds
/-- e gives a new instance, which may change -/
def NI (X : Cx) (e : Expr) (Γ : Gm) (S : HS) (cls : Str) (fl : List (Str × TV)) : Prop :=
  ∀ σ, Slots S.G σ Γ → ∀ S1, Grow S S1 → ∀ Q : VK, (∀ S2 p, Grow S1 S2 → S1.H p = none → MI S2 p cls fl → Q (.ref p) S2.H) → wE X e σ S1.H Q
variable {X : Cx} {e a b o : Expr} {es : List Expr} {Γ : Gm} {S : HS} {pos : Pos} {p : Addr} {cls : Str} {fl : List (Str × TV)} {D : Ends} {rest : List Stmt}
/-- the state with a bare instance -/
def HS.bare (S : HS) (x dx : Addr) (C : Addr) (hx : S.H x = none) (hd : S.H dx = none) : HS := ⟨S.G, upd (upd S.H dx (.own x)) x (.ins C dx []), same_upd2 (same_upd2 S.le (S.le.free hd)) (S.le.free hx)⟩
theorem Grow.bare {x dx C : Addr} {hx : S.H x = none} {hd : S.H dx = none} : Grow S (S.bare x dx C hx hd) := ⟨fun b o e => by
    show L2.upd (L2.upd S.H dx (.own x)) x (.ins C dx []) b = some o
    rw [upd_ne (ne_of_none e hx), upd_ne (ne_of_none e hd)]
    exact e, Same.refl _, fun _ _ z => z⟩
theorem ni_make {δ δ2 : Type} [Args δ] [Args δ2] {k j : Nat} {nm : Pos} {fl : δ → List (Str × TV)} {pre : δ → Prop} {d : δ} {d2 : δ2} {dvs : List V} [hX : InC k X] (I : ICal cls j (SpI cls fl pre) dvs) (ha : AR X (e :: es) Γ S d2) (hd : ∀ (H : Hp) (vs : List V), Args.reps H vs d2 → Args.reps H (vs ++ dvs) d) (hpre : pre d) (hj : j + 1 ≤ k := by decide)
    (hg : Gl X cls := by rfl) (hdb : (cls == ("__debug__" : Str)) = false := by decide) (he : starEach (e :: es) X.env = (false, eval e X.env) :: starEach es X.env := by rfl) (hpl : (backTo pos (starEach es X.env)).any (·.1) = false := by rfl) :
    NI X (.Call (.Name cls nm) (e :: es) [] pos) Γ S cls (fl d) := fun σ hσ S1 g Q kk => by
  obtain ⟨f, fd, ps, ds, F, hm, hgl, hb, hv⟩ := I.ex
  refine w_pe (pe_make (by rw [hX.K]; exact hm) (fn_in hX F) (hX.room.mono hj) hg (by rw [hX.mg]; exact hgl) (by rw [hX.K]; exact hb) hv pass0 pa_w hdb he hpl) (ha σ hσ S1 g _ fun S2 vs g2 r => ?_)
  intro x dx hx hdx hne
  refine ⟨S2.bare x dx _ hx hdx, x, d, vs ++ dvs, rfl, rfl, hd _ _ r, hpre, ⟨S2.le.free hx, dx, [], upd_same, .nil⟩, fun S3 u3 m3 => ⟨rfl, ?_⟩⟩
  exact kk S3 x (g2.trans ((Grow.bare (hx := hx) (hd := hdx)).upd hx u3)) (g2.h.free hx) m3
theorem NI.er {α : Type} [Rp α] {x : α} (h : NI X e Γ S cls fl) (hr : ∀ H v, repObj cls fl H v → Rp.rep H v x) : ER X e Γ S x := fun σ hσ S1 g Q k => h σ hσ S1 g Q fun S2 p g2 hp hM => by
  obtain ⟨S', e, g', _, r, _⟩ := hM.fixed g2 hp
  have q := k S' _ g' (hr _ _ r)
  rw [e] at q
  exact q
theorem s_setI {nm : Str} {pos' : Pos} (i : Nat) (hN : X.N.Nodup) (h : NI X e Γ S cls fl) (k : ∀ (S1 : HS) (p : Addr), Grow S S1 → S.H p = none → MI S1 p cls fl → SB X rest D (Γ.set i (some ⟨(⟨p⟩ : Adr)⟩)) S1)
    (hi : X.N[i]? = some nm := by rfl) (hx : Loc X.env.scope nm := by first | exact Or.inl rfl | exact Or.inr rfl) (hs : swapsWith e (some (.Name nm pos')) pos.line X.env = pure false := by rfl)
    (hf : X.fn nm = true ∨ X.env.scope.names.lookup nm = some .local := by first | exact .inl rfl | exact .inr rfl) : SB X (.Assign [.Name nm pos'] e pos :: rest) D Γ S := fun σ hσ =>
  w_cons (w_ps (ps_set hN hi hx pe_w hs hf) (h σ hσ S (.refl _) _ fun S2 p g2 hp hM => k S2 p g2 hp hM _ (Slots.set (t := ⟨(⟨p⟩ : Adr)⟩) (hσ.mono g2.g) i rfl)))
/-! ### the robots -/
/-- a way as it is handed in: a list, or the empty tuple of the default -/
structure Wy where
  l : List Int
instance : Rp Wy := ⟨fun H v w => Rp.rep H v w.l ∨ (w.l = [] ∧ ∃ T, v = .ref T ∧ ∀ H' : Hp, SqT c.K H' T []), fun s h => h.imp (Rp.mono s) id⟩
theorem er_wy {w : List Int} (h : ER X e Γ S w) : ER X e Γ S (⟨w⟩ : Wy) := fun σ hσ S1 g Q k => h σ hσ S1 g Q fun S2 v g2 r => k S2 v g2 (.inl r)
theorem er_listW {k0 : Nat} [hX : InC k0 X] {w : Wy} {q : Pos} (hm : X.mg "list" = none) (ha : ER X a Γ S w) (hg : Gl X "list" := by rfl) (hs : starEach [a] X.env = [(false, eval a X.env)] := by rfl) : ER X (.Call (.Name "list" q) [a] [] pos) Γ S w.l :=
  er_t1 call_list_of hm (by decide +kernel) ha (fun S2 v Q r k => by
    rcases r with ⟨p, vs, e1, e2, r⟩ | ⟨e0, T, e1, r⟩
    · exact ⟨p, vs, by rw [e1], .inl (SqL.of (S2.le _ _ e2)), fun p' hp => k (S2.new p' _ hp) _ (.new S2 p' _ hp) ⟨p', vs, rfl, HS.new_at, r.mono (Grow.new S2 p' _ hp).g⟩⟩
    · exact ⟨T, [], by rw [e1], .inr (by rw [hX.K]; exact r S2.H), fun p' hp => k (S2.new p' _ hp) _ (.new S2 p' _ hp) ⟨p', [], rfl, HS.new_at, by rw [e0]; exact .nil⟩⟩) (by decide) (by decide) hg hs
theorem tup0 : ∀ H' : Hp, SqT c.K H' (He.dflAt ("Robot", some "__init__") 1 c.K) [] := fun H' => by
  have h := moreA (c := c)
  unfold exA at h
  have h2 := (He.ba (He.ba h).1).1
  unfold tupE at h2
  cases q : c.K.lookup (He.dflAt ("Robot", some "__init__") 1 c.K) with
  | none =>
    rw [q] at h2
    cases h2
  | some o =>
    obtain ⟨oc, od, dt, osl⟩ := o
    rw [q] at h2
    cases oc with
    | type cn =>
      cases dt with
      | seq its n =>
        obtain ⟨h3, h4⟩ := He.ba (show (decide (cn = "tuple") && decide (its.size = 0)) = true from h2)
        have e0 : its.size = 0 := of_decide_eq_true h4
        refine .inr ⟨_, its, n, q, congrArg Value.type (of_decide_eq_true h3), rfl, by rw [e0]; exact Nat.zero_le _, ?_⟩
        have e1 : its.toList = [] := List.eq_nil_of_length_eq_zero (by rw [Array.length_toList]; exact e0)
        rw [e1]
        exact .nil
      | _ => cases h2
    | _ => cases dt <;> cases h2
abbrev RobA := Int × Bool × Wy × Unit
def flRobA (d : RobA) : List (Str × TV) := flRob ⟨d.1, d.2.1, d.2.2.1.l⟩
/-- an __init__ of the text -/
theorem fn_init {δ : Type} [Args δ] {d : He.DefD} {i : Nat} {cls : Str} {fl : δ → List (Str × TV)} {pre : δ → Prop} {k : Nat} {N ps : List Str} (hi : fn[i]? = some d) (sc : FnScope N ps d.scope) (hnum : Args.num δ + 1 = ps.length)
    (body : ∀ (f : Addr) (cdv : Value) (A : Around) (outer : List Env) (s : Shared) (S : HS) (p : Addr) (a : δ) (Q : VK) (E : XK), InC k (bx d N f cdv A outer s S.H E) → pre a → MI S p cls [] → (∀ S1 : HS, Upd S p S1 → MI S1 p cls (fl a) → Q .non S1.H) →
      SB (bx d N f cdv A outer s S.H E) d.body { nx := fun _ H' => Q .non H', rt := Q } (some ⟨(⟨p⟩ : Adr)⟩ :: Args.gm a (N.length - (Args.num δ + 1))) S) :
    ∃ fd, FnOk PP c.w c.K c.mg c.base CX0 (k + 1) (He.fAd c.K d.at_) fd ps (SpI cls fl pre) ∧ FunD c.K d.name d.qual d.params d.body d.scope (d.dvs c.K) (d.kws c.K) (He.fAd c.K d.at_) fd := by
  obtain ⟨fd, F⟩ := c.says.d.def_ i hi
  refine ⟨fd, F.ok sc (fun vs H Q E h => ?_) (fun cdv A outer s H vs Q E hr h => ?_), F⟩
  · obtain ⟨S, p, d, r, _, rfl, hr, _, _⟩ := h
    rw [List.length_cons, Args.len hr, hnum]
  · obtain ⟨S, p, a, r, rfl, rfl, ha, hp, hm, hq⟩ := h
    have hX : InC k (bx d N (He.fAd c.K d.at_) cdv A outer s S.H E) := inC_bx hr
    refine ⟨_, PSs.nox pss_w, ?_⟩
    have hl : (V.ref p :: r).length = Args.num δ + 1 := by rw [List.length_cons, Args.len ha]
    have hs : Slots S.G (L2.start N (V.ref p :: r)) (some ⟨(⟨p⟩ : Adr)⟩ :: Args.gm a (N.length - (Args.num δ + 1))) := by
      unfold L2.start
      rw [hl]
      exact Slots.cons (t := ⟨(⟨p⟩ : Adr)⟩) rfl (Args.sl ha)
    exact body (He.fAd c.K d.at_) cdv A outer s S p a Q E hX hp hm hq _ hs
theorem init_Robot : ∃ fd, FnOk PP c.w c.K c.mg c.base CX0 1 (He.ma c.K (He.ga c.K "Robot") "__init__") fd ["self", "place", "broken", "way"] (SpI "Robot" flRobA) ∧ FunD c.K d_Robot_init.name d_Robot_init.qual d_Robot_init.params d_Robot_init.body d_Robot_init.scope (d_Robot_init.dvs c.K) (d_Robot_init.kws c.K) (He.ma c.K (He.ga c.K "Robot") "__init__") fd := by
  refine fn_init (d := d_Robot_init) (i := i_Robot_init) rfl sc_Robot_init rfl (fun f cdv A outer s S p a Q E hX _ hm hq => ?_)
  obtain ⟨pl, br, w, ⟨⟩⟩ := a
  show SB _ _ _ [some ⟨(⟨p⟩ : Adr)⟩, some ⟨pl⟩, some ⟨br⟩, some ⟨w⟩] S
  refine s_fld (t := ⟨pl⟩) hm (er_var 1) (er_var 0) c_Robot n_Robot_place rfl fun S1 u1 m1 => ?_
  refine s_fld (t := ⟨br⟩) m1 (er_var 2) (er_var 0) c_Robot n_Robot_broken rfl fun S2 u2 m2 => ?_
  refine s_fld (t := ⟨w.l⟩) m2 (er_listW b_list (er_var 3)) (er_var 0) c_Robot n_Robot_way rfl fun S3 u3 m3 => ?_
  exact s_nil fun σ hσ => hq S3 ((u1.trans u2 m1.there).trans u3 m2.there) m3
theorem dvs_Robot : d_Robot_init.dvs c.K = [.bl false, .ref (He.dflAt ("Robot", some "__init__") 1 c.K)] := rfl
theorem ical_Robot (n j : Nat) (hn : n ≤ 4) (dd : List V) (h1 : dd = (d_Robot_init.dvs c.K).drop j) (hj : n + (2 - j) = 4) (hj2 : j ≤ 2) : ICal "Robot" 1 (SpI "Robot" flRobA) dd := by
  obtain ⟨fd, F, G⟩ := init_Robot (c := c)
  subst h1
  have key : ∃ ds, Vals ((d_Robot_init.dvs c.K).drop j) ds ∧ Binds c.K fd ["self", "place", "broken", "way"] ds := by
    match j, n, hj, hj2 with
    | 0, 2, _, _ => exact G.binds1 (ps := ["self", "place", "broken", "way"]) 2 0 (by rw [dvs_Robot]; simp) (by rw [dvs_Robot]; rfl) (fun T kV doc pm an cdv ct us its h1 h2 => by
        rw [dvs_Robot] at h2
        match us, h1, its, h2 with
        | [_, _], _, [_, _], _ => exact ⟨_, rfl, rfl⟩)
    | 1, 3, _, _ => exact G.binds1 (ps := ["self", "place", "broken", "way"]) 3 1 (by rw [dvs_Robot]; simp) (by rw [dvs_Robot]; rfl) (fun T kV doc pm an cdv ct us its h1 h2 => by
        rw [dvs_Robot] at h2
        match us, h1, its, h2 with
        | [_, _, _], _, [_, _], _ => exact ⟨_, rfl, rfl⟩)
    | 2, 4, _, _ => exact G.binds1 (ps := ["self", "place", "broken", "way"]) 4 2 (by rw [dvs_Robot]; simp) (by rw [dvs_Robot]; rfl) (fun T kV doc pm an cdv ct us its h1 h2 => by
        rw [dvs_Robot] at h2
        match us, h1, its, h2 with
        | [_, _, _, _], _, [_, _], _ => exact ⟨_, rfl, rfl⟩)
    | 0, 0, h, _ => omega
    | 0, 1, h, _ => omega
    | 0, (n + 3), h, _ => omega
    | 1, 0, h, _ => omega
    | 1, 1, h, _ => omega
    | 1, 2, h, _ => omega
    | 1, (n + 4), h, _ => omega
    | 2, 0, h, _ => omega
    | 2, 1, h, _ => omega
    | 2, 2, h, _ => omega
    | 2, 3, h, _ => omega
    | 2, (n + 5), h, _ => omega
  obtain ⟨ds, hv, hb⟩ := key
  exact ⟨_, fd, _, ds, F, mk_Robot, g_Robot, hb, hv⟩
/-- Robot(place, broken, way) -/
theorem ni_Robot3 {k : Nat} [hX : InC k X] {pl : Int} {br : Bool} {w : List Int} {x : Expr} {nm : Pos} (ha : ER X a Γ S pl) (hb : ER X b Γ S br) (hc : ER X x Γ S w) (hj : 2 ≤ k := by decide) (hg : Gl X "Robot" := by rfl)
    (h1 : starEach [a, b, x] X.env = (false, eval a X.env) :: starEach [b, x] X.env := by rfl) (h2 : starEach [b, x] X.env = (false, eval b X.env) :: starEach [x] X.env := by rfl) (h3 : starEach [x] X.env = (false, eval x X.env) :: starEach [] X.env := by rfl)
    (hpl : (backTo pos (starEach [b, x] X.env)).any (·.1) = false := by rfl) : NI X (.Call (.Name "Robot" nm) [a, b, x] [] pos) Γ S "Robot" (flRob ⟨pl, br, w⟩) :=
  ni_make (fl := flRobA) (d := (pl, br, (⟨w⟩ : Wy), ())) (d2 := (pl, br, (⟨w⟩ : Wy), ())) (ical_Robot 4 2 (by decide) [] rfl rfl (by decide)) (ar_cons ha (ar_cons hb (ar_cons (er_wy hc) ar_nil h3) h2) h1) (fun H vs r => by rw [List.append_nil]; exact r) trivial hj hg (by decide) h1 hpl
/-- Robot(place, broken) -/
theorem ni_Robot2 {k : Nat} [hX : InC k X] {pl : Int} {br : Bool} {nm : Pos} (ha : ER X a Γ S pl) (hb : ER X b Γ S br) (hj : 2 ≤ k := by decide) (hg : Gl X "Robot" := by rfl)
    (h1 : starEach [a, b] X.env = (false, eval a X.env) :: starEach [b] X.env := by rfl) (h2 : starEach [b] X.env = (false, eval b X.env) :: starEach [] X.env := by rfl)
    (hpl : (backTo pos (starEach [b] X.env)).any (·.1) = false := by rfl) : NI X (.Call (.Name "Robot" nm) [a, b] [] pos) Γ S "Robot" (flRob ⟨pl, br, []⟩) :=
  ni_make (fl := flRobA) (d := (pl, br, (⟨[]⟩ : Wy), ())) (d2 := (pl, br, ())) (ical_Robot 3 1 (by decide) [.ref (He.dflAt ("Robot", some "__init__") 1 c.K)] rfl rfl (by decide)) (ar_cons ha (ar_cons hb ar_nil h2) h1)
    (fun H vs r => by
    obtain ⟨v, _, rfl, r1, v2, _, rfl, r2, rfl⟩ := r
    exact ⟨v, _, rfl, r1, v2, _, rfl, r2, _, _, rfl, .inr ⟨rfl, _, rfl, tup0⟩, rfl⟩) trivial hj hg (by decide) h1 hpl
/-- Robot(place) -/
theorem ni_Robot1 {k : Nat} [hX : InC k X] {pl : Int} {nm : Pos} (ha : ER X a Γ S pl) (hj : 2 ≤ k := by decide) (hg : Gl X "Robot" := by rfl)
    (h1 : starEach [a] X.env = (false, eval a X.env) :: starEach [] X.env := by rfl) (hpl : (backTo pos (starEach [] X.env)).any (·.1) = false := by rfl) : NI X (.Call (.Name "Robot" nm) [a] [] pos) Γ S "Robot" (flRob ⟨pl, false, []⟩) :=
  ni_make (fl := flRobA) (d := (pl, false, (⟨[]⟩ : Wy), ())) (d2 := (pl, ())) (ical_Robot 2 0 (by decide) [.bl false, .ref (He.dflAt ("Robot", some "__init__") 1 c.K)] rfl rfl (by decide)) (ar_cons ha ar_nil h1)
    (fun H vs r => by
    obtain ⟨v, _, rfl, r1, rfl⟩ := r
    exact ⟨v, _, rfl, r1, _, _, rfl, rfl, _, _, rfl, .inr ⟨rfl, _, rfl, tup0⟩, rfl⟩) trivial hj hg (by decide) h1 hpl
end
end Fl

set_option Elab.async false
set_option linter.all false
set_option maxRecDepth 100000
set_option maxHeartbeats 4000000
namespace Fl
open PySem PySem.Spec PyProof.Rows L2
section
variable [c : Ctx]
/-- any promise -/
theorem fn_sp {d : He.DefD} {i : Nat} {k : Nat} {N ps : List Str} {sp : Sp} (hi : fn[i]? = some d) (sc : FnScope N ps d.scope) (hlen : ∀ vs H Q E, sp vs H Q E → vs.length = ps.length)
    (body : ∀ (f : Addr) (cdv : Value) (A : Around) (outer : List Env) (s : Shared) (H : Hp) (vs : List V) (Q : VK) (E : XK), InC k (bx d N f cdv A outer s H E) → sp vs H Q E → wB (bx d N f cdv A outer s H E) d.body { nx := fun _ H' => Q .non H', rt := Q } (L2.start N vs) H) :
    ∃ fd, FnOk PP c.w c.K c.mg c.base CX0 (k + 1) (He.fAd c.K d.at_) fd ps sp ∧ FunD c.K d.name d.qual d.params d.body d.scope (d.dvs c.K) (d.kws c.K) (He.fAd c.K d.at_) fd := by
  obtain ⟨fd, F⟩ := c.says.d.def_ i hi
  exact ⟨fd, F.ok sc hlen (fun cdv A outer s H vs Q E hr h => ⟨_, PSs.nox pss_w, body (He.fAd c.K d.at_) cdv A outer s H vs Q E (inC_bx hr) h⟩), F⟩
theorem mcal_sp {d : He.DefD} {i : Nat} {k : Nat} {C m : Str} {N ps : List Str} {sp : Sp} (hi : fn[i]? = some d) (sc : FnScope N ps d.scope) (hm : Meth c.K (He.ga c.K C) m (He.ma c.K (He.ga c.K C) m)) (hc : Cls c.K (He.ga c.K C)) (hlen : ∀ vs H Q E, sp vs H Q E → vs.length = ps.length)
    (body : ∀ (f : Addr) (cdv : Value) (A : Around) (outer : List Env) (s : Shared) (H : Hp) (vs : List V) (Q : VK) (E : XK), InC k (bx d N f cdv A outer s H E) → sp vs H Q E → wB (bx d N f cdv A outer s H E) d.body { nx := fun _ H' => Q .non H', rt := Q } (L2.start N vs) H)
    (hb : ∀ (kV doc pm : Value) (an : Option Addr) (cdv ct : Value) (us : List Value), us.length = ps.length → bindArgs (PySem.W.fnOf d.name d.qual d.params d.body d.scope .none kV doc pm an cdv ct) ⟨us, []⟩ = pure (ps.zip us)) (hat : d.at_ = (C, some m) := by rfl) (hdf : d.dfl = [] := by rfl) (hkw : d.kwd = [] := by rfl) : MCal C m (k + 1) sp := by
  obtain ⟨fd, F, G⟩ := fn_sp hi sc hlen body
  have e : He.fAd c.K d.at_ = He.ma c.K (He.ga c.K C) m := by rw [hat]; rfl
  have e1 : d.dvs c.K = [] := by unfold He.DefD.dvs; rw [hdf]; rfl
  have e2 : d.kws c.K = [] := by unfold He.DefD.kws; rw [hkw]; rfl
  rw [e] at F
  rw [e1, e2] at G
  exact ⟨_, fd, ps, F, hm, hc, G.bindsN hb⟩
/-- a method that changes its own instance -/
theorem mcal_M {α δ : Type} [Args δ] {fl : α → List (Str × TV)} {g : α → δ → α} {d : He.DefD} {i : Nat} {k : Nat} {C m : Str} {N ps : List Str} (hi : fn[i]? = some d) (sc : FnScope N ps d.scope) (hm : Meth c.K (He.ga c.K C) m (He.ma c.K (He.ga c.K C) m)) (hc : Cls c.K (He.ga c.K C)) (hnum : Args.num δ + 1 = ps.length)
    (body : ∀ (f : Addr) (cdv : Value) (A : Around) (outer : List Env) (s : Shared) (S : HS) (p : Addr) (x : α) (a : δ) (Q : VK) (E : XK), InC k (bx d N f cdv A outer s S.H E) → MI S p C (fl x) → (∀ S1 : HS, Upd S p S1 → MI S1 p C (fl (g x a)) → Q .non S1.H) →
      SB (bx d N f cdv A outer s S.H E) d.body { nx := fun _ H' => Q .non H', rt := Q } (some ⟨(⟨p⟩ : Adr)⟩ :: Args.gm a (N.length - (Args.num δ + 1))) S)
    (hb : ∀ (kV doc pm : Value) (an : Option Addr) (cdv ct : Value) (us : List Value), us.length = ps.length → bindArgs (PySem.W.fnOf d.name d.qual d.params d.body d.scope .none kV doc pm an cdv ct) ⟨us, []⟩ = pure (ps.zip us)) (hat : d.at_ = (C, some m) := by rfl) (hdf : d.dfl = [] := by rfl) (hkw : d.kwd = [] := by rfl) : MCal C m (k + 1) (SpM C fl g) := by
  refine mcal_sp hi sc hm hc (fun vs H Q E ⟨S, p, x, a, r, _, e, hr, _⟩ => by rw [e, List.length_cons, Args.len hr, hnum]) (fun f cdv A outer s H vs Q E hX h => ?_) hb hat hdf hkw
  obtain ⟨S, p, x, a, r, rfl, rfl, ha, hM, hq⟩ := h
  have hl : (V.ref p :: r).length = Args.num δ + 1 := by rw [List.length_cons, Args.len ha]
  have hs : Slots S.G (L2.start N (V.ref p :: r)) (some ⟨(⟨p⟩ : Adr)⟩ :: Args.gm a (N.length - (Args.num δ + 1))) := by
    unfold L2.start
    rw [hl]
    exact Slots.cons (t := ⟨(⟨p⟩ : Adr)⟩) rfl (Args.sl ha)
  exact body f cdv A outer s S p x a Q E hX hM hq _ hs
/-- a method that makes a new instance -/
def SpNw {α : Type} [Args α] (pre : α → Prop) (cls : Str) (fl : α → List (Str × TV)) : Sp := fun vs H Q _ =>
  ∃ (S : HS) (a : α), S.H = H ∧ Args.reps S.G vs a ∧ pre a ∧ ∀ (S1 : HS) (p : Addr), Grow S S1 → S.H p = none → MI S1 p cls (fl a) → Q (.ref p) S1.H
/-! ### Robot.twin -/
theorem cal_Robot_twin : MCal "Robot" "twin" 3 (Spf (fun _ : Rob × Unit => True) fun a => a.1) := by
  refine mkMCal (d := d_Robot_twin) i_Robot_twin sc_Robot_twin m_Robot_twin c_Robot (fun f cdv A outer s S a Q E hp hX hq => ?_) (hb := fun _ _ _ _ _ _ us hl => match us, hl with | [_], _ => rfl)
  obtain ⟨x, ⟨⟩⟩ := a
  replace hq : ∀ S1 r y, Grow S S1 → Rp.rep S1.G r y → y = x → Q r S1.H := hq
  show SB _ _ _ [some ⟨x⟩] S
  refine s_ret (x := x) (NI.er (ni_Robot3 (eRob_place (er_var 0)) (eRob_broken (er_var 0)) (eRob_way (er_var 0))) fun H v h => h) fun S2 v g2 r => hq S2 v _ g2 r rfl
/-! ### orders -/
abbrev OdrA := Int × Int × Unit
def flOdrA (d : OdrA) : List (Str × TV) := flOdr ⟨d.1, d.2.1, false, none, false⟩
theorem ical_Order : ICal "Order" 1 (SpI "Order" flOdrA) [] := by
  obtain ⟨fd, F, G⟩ : ∃ fd, FnOk PP c.w c.K c.mg c.base CX0 1 (He.ma c.K (He.ga c.K "Order") "__init__") fd ["self", "start", "goal"] (SpI "Order" flOdrA) ∧ FunD c.K d_Order_init.name d_Order_init.qual d_Order_init.params d_Order_init.body d_Order_init.scope (d_Order_init.dvs c.K) (d_Order_init.kws c.K) (He.ma c.K (He.ga c.K "Order") "__init__") fd := by
    refine fn_init (d := d_Order_init) (i := i_Order_init) rfl sc_Order_init rfl (fun f cdv A outer s S p a Q E hX _ hm hq => ?_)
    obtain ⟨st, go, ⟨⟩⟩ := a
    show SB _ _ _ [some ⟨(⟨p⟩ : Adr)⟩, some ⟨st⟩, some ⟨go⟩] S
    refine s_fld (t := ⟨st⟩) hm (er_var 1) (er_var 0) c_Order n_Order_start rfl fun S1 u1 m1 => ?_
    refine s_fld (t := ⟨go⟩) m1 (er_var 2) (er_var 0) c_Order n_Order_goal rfl fun S2 u2 m2 => ?_
    refine s_fld (t := ⟨false⟩) m2 er_bl (er_var 0) c_Order n_Order_done rfl fun S3 u3 m3 => ?_
    refine s_fld (t := ⟨(none : Option Int)⟩) m3 er_non (er_var 0) c_Order n_Order_robot rfl fun S4 u4 m4 => ?_
    refine s_fld (t := ⟨false⟩) m4 er_bl (er_var 0) c_Order n_Order_loaded rfl fun S5 u5 m5 => ?_
    exact s_nil fun σ hσ => hq S5 ((((u1.trans u2 m1.there).trans u3 m2.there).trans u4 m3.there).trans u5 m4.there) m5
  exact ⟨_, fd, _, [], F, mk_Order, g_Order, FunD.bindsN G (fun _ _ _ _ _ _ us hl => match us, hl with | [_, _, _], _ => rfl), .nil⟩
variable {X : Cx} {e a b o : Expr} {es : List Expr} {Γ : Gm} {S : HS} {pos : Pos} {p : Addr} {cls : Str} {fl : List (Str × TV)} {D : Ends} {rest : List Stmt}
theorem ni_Order {k : Nat} [hX : InC k X] {st go : Int} {nm : Pos} (ha : ER X a Γ S st) (hb : ER X b Γ S go) (hj : 2 ≤ k := by decide) (hg : Gl X "Order" := by rfl)
    (h1 : starEach [a, b] X.env = (false, eval a X.env) :: starEach [b] X.env := by rfl) (h2 : starEach [b] X.env = (false, eval b X.env) :: starEach [] X.env := by rfl)
    (hpl : (backTo pos (starEach [b] X.env)).any (·.1) = false := by rfl) : NI X (.Call (.Name "Order" nm) [a, b] [] pos) Γ S "Order" (flOdr ⟨st, go, false, none, false⟩) :=
  ni_make (fl := flOdrA) (d := (st, go, ())) (d2 := (st, go, ())) ical_Order (ar_cons ha (ar_cons hb ar_nil h2) h1) (fun H vs r => by rw [List.append_nil]; exact r) trivial hj hg (by decide) h1 hpl
theorem cal_give : MCal "Order" "give" 1 (SpM "Order" flOdr fun x (d : Int × Unit) => { x with robot := some d.1 }) := by
  refine mcal_M (d := d_Order_give) (i := i_Order_give) rfl sc_Order_give m_Order_give c_Order rfl (fun f cdv A outer s S p x a Q E hX hm hq => ?_) (fun _ _ _ _ _ _ us hl => match us, hl with | [_, _], _ => rfl)
  obtain ⟨r, ⟨⟩⟩ := a
  show SB _ _ _ [some ⟨(⟨p⟩ : Adr)⟩, some ⟨r⟩] S
  refine s_fld (t := ⟨some r⟩) hm (er_some (er_var 1)) (er_var 0) c_Order n_Order_robot rfl fun S1 u1 m1 => ?_
  exact s_nil fun σ hσ => hq S1 u1 m1
theorem cal_load : MCal "Order" "load" 1 (SpM "Order" flOdr fun x (_ : Unit) => { x with loaded := true }) := by
  refine mcal_M (d := d_Order_load) (i := i_Order_load) rfl sc_Order_load m_Order_load c_Order rfl (fun f cdv A outer s S p x a Q E hX hm hq => ?_) (fun _ _ _ _ _ _ us hl => match us, hl with | [_], _ => rfl)
  obtain ⟨⟩ := a
  show SB _ _ _ [some ⟨(⟨p⟩ : Adr)⟩] S
  refine s_fld (t := ⟨true⟩) hm er_bl (er_var 0) c_Order n_Order_loaded rfl fun S1 u1 m1 => ?_
  exact s_nil fun σ hσ => hq S1 u1 m1
theorem cal_release : MCal "Order" "release" 1 (SpM "Order" flOdr fun x (_ : Unit) => { x with robot := none, loaded := false }) := by
  refine mcal_M (d := d_Order_release) (i := i_Order_release) rfl sc_Order_release m_Order_release c_Order rfl (fun f cdv A outer s S p x a Q E hX hm hq => ?_) (fun _ _ _ _ _ _ us hl => match us, hl with | [_], _ => rfl)
  obtain ⟨⟩ := a
  show SB _ _ _ [some ⟨(⟨p⟩ : Adr)⟩] S
  refine s_fld (t := ⟨(none : Option Int)⟩) hm er_non (er_var 0) c_Order n_Order_robot rfl fun S1 u1 m1 => ?_
  refine s_fld (t := ⟨false⟩) m1 er_bl (er_var 0) c_Order n_Order_loaded rfl fun S2 u2 m2 => ?_
  exact s_nil fun σ hσ => hq S2 (u1.trans u2 m1.there) m2
theorem cal_finish : MCal "Order" "finish" 2 (SpM "Order" flOdr fun x (_ : Unit) => { x with robot := none, loaded := false, done := true }) := by
  refine mcal_M (d := d_Order_finish) (i := i_Order_finish) rfl sc_Order_finish m_Order_finish c_Order rfl (fun f cdv A outer s S p x a Q E hX hm hq => ?_) (fun _ _ _ _ _ _ us hl => match us, hl with | [_], _ => rfl)
  obtain ⟨⟩ := a
  show SB _ _ _ [some ⟨(⟨p⟩ : Adr)⟩] S
  refine s_methM0 cal_release hm (lOdr_release_no x) (er_var 0) fun S1 u1 m1 => ?_
  refine s_fld (t := ⟨true⟩) m1 er_bl (er_var 0) c_Order n_Order_done rfl fun S2 u2 m2 => ?_
  exact s_nil fun σ hσ => hq S2 (u1.trans u2 m1.there) m2
/-- Order.twin: a new instance -/
theorem cal_Order_twin : MCal "Order" "twin" 3 (SpNw (fun _ : Odr × Unit => True) "Order" fun a => flOdr a.1) := by
  refine mcal_sp (d := d_Order_twin) (i := i_Order_twin) rfl sc_Order_twin m_Order_twin c_Order (fun vs H Q E ⟨S, a, _, hr, _⟩ => Args.len hr) (fun f cdv A outer s H vs Q E hX h => ?_) (fun _ _ _ _ _ _ us hl => match us, hl with | [_], _ => rfl)
  obtain ⟨S, ⟨x, ⟨⟩⟩, rfl, ha, _, hq⟩ := h
  obtain ⟨v, _, rfl, hv, rfl⟩ := ha
  have nd := sc_Order_twin.nd
  refine (show SB (bx d_Order_twin N_Order_twin f cdv A outer s S.H E) _ _ [some ⟨x⟩, none] S from ?_) _ (Slots.cons (t := ⟨x⟩) hv (Slots.nones 1))
  refine s_setI 1 nd (ni_Order (eOdr_start (er_var 0)) (eOdr_goal (er_var 0))) fun S1 p g1 hp m1 => ?_
  refine s_fld (t := ⟨x.done⟩) m1 (eOdr_done (er_var 0)) (er_var 1) c_Order n_Order_done rfl fun S2 u2 m2 => ?_
  refine s_fld (t := ⟨x.robot⟩) m2 (eOdr_robot (er_var 0)) (er_var 1) c_Order n_Order_robot rfl fun S3 u3 m3 => ?_
  refine s_fld (t := ⟨x.loaded⟩) m3 (eOdr_loaded (er_var 0)) (er_var 1) c_Order n_Order_loaded rfl fun S4 u4 m4 => ?_
  refine s_ret (er_var 1) fun S5 v g5 r => ?_
  have ev : v = .ref p := r
  subst ev
  exact hq S5 p ((((g1.upd hp u2).upd hp u3).upd hp u4).trans g5) hp (m4.up g5)
end
end Fl

set_option Elab.async false
set_option linter.all false
set_option maxRecDepth 100000
set_option maxHeartbeats 4000000
namespace Fl
open PySem PySem.Spec PyProof.Rows L2
section
variable [c : Ctx]
/-! ### a new fleet -/
abbrev FltA := Flo × Int × Int × Unit
def flFltA (d : FltA) : List (Str × TV) := flFlt ⟨d.1, d.2.2.1, List.replicate d.2.1.toNat ⟨d.1.depot, false, []⟩, []⟩
def preFltA (d : FltA) : Prop := 0 ≤ d.2.1 ∧ d.2.1 ≤ 1000
theorem map_const_range {α : Type} (x : α) (n : Nat) : (rangeI 0 n).map (fun _ => x) = List.replicate n x := by
  rw [List.eq_replicate_iff]
  refine ⟨by rw [List.length_map, rangeI_len], fun b hb => ?_⟩
  obtain ⟨_, _, e⟩ := List.mem_map.mp hb
  exact e.symm
theorem init_Fleet : ∃ fd, FnOk PP c.w c.K c.mg c.base CX0 3 (He.ma c.K (He.ga c.K "Fleet") "__init__") fd ["self", "floor", "robots", "patience"] (SpI "Fleet" flFltA preFltA) ∧ FunD c.K d_Fleet_init.name d_Fleet_init.qual d_Fleet_init.params d_Fleet_init.body d_Fleet_init.scope (d_Fleet_init.dvs c.K) (d_Fleet_init.kws c.K) (He.ma c.K (He.ga c.K "Fleet") "__init__") fd := by
  refine fn_init (d := d_Fleet_init) (i := i_Fleet_init) rfl sc_Fleet_init rfl (fun f cdv A outer s S p a Q E hX hp hm hq => ?_)
  obtain ⟨fl, n, pt, ⟨⟩⟩ := a
  obtain ⟨h0, h1⟩ : 0 ≤ n ∧ n ≤ 1000 := hp
  have nd := sc_Fleet_init.nd
  show SB _ _ _ [some ⟨(⟨p⟩ : Adr)⟩, some ⟨fl⟩, some ⟨n⟩, some ⟨pt⟩, none] S
  refine s_fld (t := ⟨fl⟩) hm (er_var 1) (er_var 0) c_Fleet n_Fleet_floor rfl fun S1 u1 m1 => ?_
  refine s_fld (t := ⟨pt⟩) m1 (er_var 3) (er_var 0) c_Fleet n_Fleet_patience rfl fun S2 u2 m2 => ?_
  refine s_fld (t := ⟨List.replicate n.toNat (⟨fl.depot, false, []⟩ : Rob)⟩) m2 ?_ (er_var 0) c_Fleet n_Fleet_robots rfl fun S3 u3 m3 => ?_
  · rw [← map_const_range]
    refine (en_lc 4 rfl nd (it_range b_range (er_var 2) (by omega)) (by rw [rangeI_len]; omega) (blkOk_by (N := N_Fleet_init) (sc := defScope s_Fleet_init) (by decide +kernel)) fun x _ S2 g2 X' hb => ?_).er
    obtain ⟨_, _, _, _, _, rfl⟩ := hb
    exact NI.er (ni_Robot1 (eFlo_depot (er_var 1))) fun H v h => h
  refine s_fld (t := ⟨([] : List Odr)⟩) m3 er_lst0 (er_var 0) c_Fleet n_Fleet_orders rfl fun S4 u4 m4 => ?_
  exact s_nil fun σ hσ => hq S4 (((u1.trans u2 m1.there).trans u3 m2.there).trans u4 m3.there) m4
theorem kws_Fleet : d_Fleet_init.kws c.K = [(("patience" : Str), V.int 4)] := rfl
theorem kb_Fleet {fd : FuncData} (G : FunD c.K d_Fleet_init.name d_Fleet_init.qual d_Fleet_init.params d_Fleet_init.body d_Fleet_init.scope (d_Fleet_init.dvs c.K) (d_Fleet_init.kws c.K) (He.ma c.K (He.ga c.K "Fleet") "__init__") fd) : KBn c.K fd ["self", "floor", "robots", "patience"] 2 ["robots", "patience"] (fun us ws => us ++ ws) (fun vs zs => vs ++ zs) := by
  obtain ⟨_, h⟩ := FunD.kbinds0 (ps := ["self", "floor", "robots", "patience"]) G 2 ["robots", "patience"] [] (fun us mv ws => us ++ ws) (by rw [kws_Fleet]; exact List.cons_ne_nil _ _) (by simp) (fun r1 _ r2 => Vals.append r1 r2) (fun D doc pm an cdv ct us mv ws l1 l2 l3 => by
    match us, l1, ws, l3 with
    | [_, _], _, [_, _], _ => exact rfl)
  exact h
variable {X : Cx} {e a b o : Expr} {es : List Expr} {Γ : Gm} {S : HS} {pos : Pos} {p : Addr} {cls : Str} {fl : List (Str × TV)} {D : Ends} {rest : List Stmt}
/-- Fleet(floor, robots=n, patience=m) -/
theorem ni_Fleet {k : Nat} [hX : InC k X] {fl : Flo} {n m : Int} {nm kp kp2 : Pos} (ho : ER X o Γ S fl) (ha : ER X a Γ S n) (hb : ER X b Γ S m) (h0 : 0 ≤ n) (h1 : n ≤ 1000) (hj : 4 ≤ k := by decide) (hg : Gl X "Fleet" := by rfl) (hs : starEach [o] X.env = (false, eval o X.env) :: starEach [] X.env := by rfl)
    (hall : (backToKw pos (keywordEach [⟨some "robots", a, kp⟩, ⟨some "patience", b, kp2⟩] X.env)).all (·.1.isSome) = true := by rfl) (hks : (backToKw pos (keywordEach [⟨some "robots", a, kp⟩, ⟨some "patience", b, kp2⟩] X.env)).filterMap (·.1) = ([("robots" : Str), ("patience" : Str)] : List Str) := by rfl)
    (hpl : ((backTo pos (starEach [o] X.env)).any (·.1) || (backToKw pos (keywordEach [⟨some "robots", a, kp⟩, ⟨some "patience", b, kp2⟩] X.env)).any (·.1.isNone)) = false := by rfl) :
    NI X (.Call (.Name "Fleet" nm) [o] [⟨some "robots", a, kp⟩, ⟨some "patience", b, kp2⟩] pos) Γ S "Fleet" (flFlt ⟨fl, m, List.replicate n.toNat ⟨fl.depot, false, []⟩, []⟩) := fun σ hσ S1 g Q kk => by
  obtain ⟨fd, F, G⟩ := init_Fleet (c := c)
  refine w_pe (pe_makeK (by rw [hX.K]; exact mk_Fleet) (fn_in hX F) (hX.room.mono hj) hg (by rw [hX.mg]; exact g_Fleet) (by rw [hX.K]; exact kb_Fleet G) pass0 (pa_cons pe_w pa_nil hs) (pk_cons pe_w (pk_cons pe_w pk_nil)) hall hks (by decide) hs hpl) ?_
  refine ho σ hσ S1 g _ fun S2 v1 g2 r1 => ha σ hσ S2 (g.trans g2) _ fun S3 v2 g3 r2 => hb σ hσ S3 ((g.trans g2).trans g3) _ fun S4 v3 g4 r3 => ⟨rfl, rfl, ?_⟩
  intro x dx hx hdx hne
  refine ⟨S4.bare x dx _ hx hdx, x, (fl, n, m, ()), [v1, v2, v3], rfl, rfl, ⟨v1, _, rfl, Rp.mono (g3.trans g4).g r1, v2, _, rfl, Rp.mono g4.g r2, v3, _, rfl, r3, rfl⟩, ⟨h0, h1⟩, ⟨S4.le.free hx, dx, [], upd_same, .nil⟩, fun S5 u5 m5 => ⟨rfl, ?_⟩⟩
  exact kk S5 x ((((g2.trans g3).trans g4).trans (Grow.bare (hx := hx) (hd := hdx))).upd (((g2.trans g3).trans g4).h.free hx) u5) (((g2.trans g3).trans g4).h.free hx) m5
end
end Fl

set_option Elab.async false
set_option linter.all false
set_option maxRecDepth 100000
set_option maxHeartbeats 4000000
namespace Fl
open PySem PySem.Spec PyProof.Rows L2
theorem Paired.get2 {α β : Type} {R : α → β → Prop} : ∀ {xs : List α} {ys : List β} {i : Nat} {y : β}, Paired R xs ys → ys[i]? = some y → ∃ x, xs[i]? = some x ∧ R x y
  | _, _, _, _, .nil, e => by simp at e
  | _, _, 0, _, .cons r _, e => by
    simp at e
    subst e
    exact ⟨_, rfl, r⟩
  | _, _, i + 1, y, .cons _ t, e => by
    obtain ⟨u, h1, h2⟩ := Paired.get2 (i := i) (y := y) t (by simpa using e)
    exact ⟨u, by simpa using h1, h2⟩
theorem Paired.imp2 {α β : Type} {R R' : α → β → Prop} : ∀ {xs : List α} {ys : List β}, (∀ x ∈ xs, ∀ y, R x y → R' x y) → Paired R xs ys → Paired R' xs ys
  | _, _, _, .nil => .nil
  | _, _, h, .cons r t => .cons (h _ List.mem_cons_self _ r) (Paired.imp2 (fun x hx => h x (List.mem_cons_of_mem _ hx)) t)
theorem Paired.snoc {α β : Type} {R : α → β → Prop} {x : α} {y : β} (r : R x y) : ∀ {xs : List α} {ys : List β}, Paired R xs ys → Paired R (xs ++ [x]) (ys ++ [y])
  | _, _, .nil => .cons r .nil
  | _, _, .cons q t => .cons q (Paired.snoc r t)
theorem Paired.ex_r {α β : Type} {R : α → β → Prop} : ∀ {xs : List α} {ys : List β} {x : α}, Paired R xs ys → x ∈ xs → ∃ y, R x y
  | _, _, _, .nil, h => by cases h
  | _, _, _, .cons r t, h => by
    rcases List.mem_cons.mp h with e | h
    · subst e
      exact ⟨_, r⟩
    · exact Paired.ex_r t h
theorem Paired.setq {α β : Type} {R R' : α → β → Prop} {q : α} {y : β} : ∀ {xs : List α} {ys : List β} {i : Nat}, xs.Nodup → xs[i]? = some q → (∀ x ∈ xs, x ≠ q → ∀ y, R x y → R' x y) → R' q y → Paired R xs ys → Paired R' xs (ys.set i y)
  | _, _, _, _, e, _, _, .nil => by simp at e
  | _, _, 0, nd, e, h, r, .cons _ t => by
    simp at e
    subst e
    refine .cons r (Paired.imp2 (fun x hx y q => h x (List.mem_cons_of_mem _ hx) (fun z => ?_) y q) t)
    subst z
    exact (List.nodup_cons.mp nd).1 hx
  | _, _, i + 1, nd, e, h, r, .cons a t => by
    have e' := (List.getElem?_cons_succ ..).symm.trans e
    refine .cons (h _ List.mem_cons_self (fun z => ?_) _ a) (Paired.setq (i := i) (List.nodup_cons.mp nd).2 e' (fun x hx => h x (List.mem_cons_of_mem _ hx)) r t)
    subst z
    exact (List.nodup_cons.mp nd).1 (List.mem_of_getElem? e')
/-! ### cells -/
def HS.frz (S : HS) (cs : List Addr) : HS := ⟨fun a => if a ∈ cs then S.H a else S.G a, S.H, fun a o e => by
  dsimp only at e
  by_cases h : a ∈ cs
  · rw [if_pos h] at e
    exact e
  · rw [if_neg h] at e
    exact S.le a o e⟩
def HS.thw (S : HS) (cs : List Addr) : HS := ⟨fun a => if a ∈ cs then none else S.G a, S.H, fun a o e => by
  dsimp only at e
  by_cases h : a ∈ cs
  · rw [if_pos h] at e
    cases e
  · rw [if_neg h] at e
    exact S.le a o e⟩
theorem HS.frz_in {S : HS} {cs : List Addr} {a : Addr} (h : a ∈ cs) : (S.frz cs).G a = S.H a := if_pos h
theorem HS.frz_out {S : HS} {cs : List Addr} {a : Addr} (h : a ∉ cs) : (S.frz cs).G a = S.G a := if_neg h
theorem HS.thw_in {S : HS} {cs : List Addr} {a : Addr} (h : a ∈ cs) : (S.thw cs).G a = none := if_pos h
theorem HS.thw_out {S : HS} {cs : List Addr} {a : Addr} (h : a ∉ cs) : (S.thw cs).G a = S.G a := if_neg h
theorem same_frz {S : HS} {cs : List Addr} : Same S.G (S.frz cs).G := fun a o e => by
  by_cases h : a ∈ cs
  · rw [HS.frz_in h]
    exact S.le a o e
  · rw [HS.frz_out h]
    exact e
theorem Grow.frz {S0 S : HS} {cs : List Addr} (g : Grow S0 S) (h : ∀ a ∈ cs, S0.H a = none) : Grow S0 (S.frz cs) := ⟨g.h, g.g.trans same_frz, fun q h1 h2 => by
  rw [HS.frz_out (fun z => h1 (h q z))]
  exact g.n q h1 h2⟩
theorem Grow.thw {S0 S : HS} {cs : List Addr} (g : Grow S0 S) (h : ∀ a ∈ cs, S0.H a = none) : Grow S0 (S.thw cs) := ⟨g.h, fun a o e => by
  have hn : a ∉ cs := fun z => by
    have e1 := S0.le a o e
    rw [h a z] at e1
    cases e1
  rw [HS.thw_out hn]
  exact g.g a o e, fun q h1 h2 => by
  rw [HS.thw_out (fun z => h1 (h q z))]
  exact g.n q h1 h2⟩
section
variable [c : Ctx]
/-! ### a fleet that may change -/
def flM (fl : Flo) (pt : Int) (r o : Addr) : List (Str × TV) := [("floor", ⟨fl⟩), ("patience", ⟨pt⟩), ("robots", ⟨(⟨r⟩ : Adr)⟩), ("orders", ⟨(⟨o⟩ : Adr)⟩)]
theorem lM_robots {fl : Flo} {pt : Int} {r o : Addr} : (flM fl pt r o).lookup ("robots" : Str) = some ⟨(⟨r⟩ : Adr)⟩ := by kernel_rfl
theorem lM_orders {fl : Flo} {pt : Int} {r o : Addr} : (flM fl pt r o).lookup ("orders" : Str) = some ⟨(⟨o⟩ : Adr)⟩ := by kernel_rfl
structure MFc (S : HS) (p r o : Addr) (qs : List Addr) (F : Flt) : Prop where
  ip : MI S p "Fleet" (flM F.floor F.patience r o)
  ir : ML S r F.robots
  io : ML S o (qs.map Adr.mk)
  iq : Paired (fun q x => MI S q "Order" (flOdr x)) qs F.orders
  nd : qs.Nodup
  ro : r ≠ o
  pq : p ∉ qs
abbrev cells (p r o : Addr) (qs : List Addr) : List Addr := p :: r :: o :: qs
theorem MI.neL {α : Type} [Rp α] {S : HS} {p r : Addr} {cls : Str} {fl : List (Str × TV)} {xs : List α} (h : MI S p cls fl) (k : ML S r xs) : p ≠ r := fun z => by
  obtain ⟨_, dx, fs, h2, _⟩ := h
  obtain ⟨_, vs, h3, _⟩ := k
  rw [z, h3] at h2
  cases h2
variable {S S0 : HS} {p r o : Addr} {qs : List Addr} {F : Flt}
theorem MFc.qL {α : Type} [Rp α] (h : MFc S p r o qs F) {l : Addr} {xs : List α} (k : ML S l xs) : l ∉ qs := fun hq => by
  obtain ⟨x, hx⟩ := Paired.ex_r h.iq hq
  exact hx.neL k rfl
theorem MFc.at_ (h : MFc S p r o qs F) {i : Nat} {x : Odr} (e : F.orders[i]? = some x) : ∃ q, qs[i]? = some q ∧ MI S q "Order" (flOdr x) := Paired.get2 h.iq e
theorem MFc.up {S1 : HS} (h : MFc S p r o qs F) (g : Grow S S1) : MFc S1 p r o qs F := ⟨h.ip.up g, h.ir.up g, h.io.up g, Paired.imp2 (fun _ _ _ m => m.up g) h.iq, h.nd, h.ro, h.pq⟩
theorem MFc.robs {S2 : HS} {xs : List Rob} (h : MFc S p r o qs F) (u : Upd S r S2) (m : ML S2 r xs) : MFc S2 p r o qs { F with robots := xs } :=
  ⟨h.ip.upd u (h.ip.neL h.ir), m, h.io.upd u h.ro.symm, Paired.imp2 (fun q hq _ m => m.upd u (fun z => h.qL h.ir (z ▸ hq))) h.iq, h.nd, h.ro, h.pq⟩
theorem MFc.odr {S2 : HS} {x : Odr} {i : Nat} {q : Addr} (h : MFc S p r o qs F) (hq : qs[i]? = some q) (u : Upd S q S2) (m : MI S2 q "Order" (flOdr x)) : MFc S2 p r o qs { F with orders := F.orders.set i x } := by
  have hm := List.mem_of_getElem? hq
  exact ⟨h.ip.upd u (fun z => h.pq (z ▸ hm)), h.ir.upd u (fun z => h.qL h.ir (z ▸ hm)), h.io.upd u (fun z => h.qL h.io (z ▸ hm)), Paired.setq h.nd hq (fun x hx ne y m => m.upd u ne) m h.iq, h.nd, h.ro, h.pq⟩
theorem MFc.more {S1 S2 : HS} {x : Odr} {q : Addr} (h : MFc S p r o qs F) (g : Grow S S1) (hq : S.H q = none) (m : MI S1 q "Order" (flOdr x)) (u : Upd S1 o S2) (l : ML S2 o (qs.map Adr.mk ++ [⟨q⟩])) : MFc S2 p r o (qs ++ [q]) { F with orders := F.orders ++ [x] } := by
  have hqs : q ∉ qs := fun z => by
    obtain ⟨y, hy⟩ := Paired.ex_r h.iq z
    exact hy.there hq
  have h1 := h.up g
  have hpq : p ≠ q := fun z => h.ip.there (z ▸ hq)
  refine ⟨h1.ip.upd u (h1.ip.neL h1.io), h1.ir.upd u h.ro, by rw [List.map_append]; exact l, Paired.snoc (R := fun q x => MI S2 q "Order" (flOdr x)) (m.upd u (m.neL h1.io)) (Paired.imp2 (fun y hy _ m => MI.upd m u (fun z => h1.qL h1.io (z ▸ hy))) h1.iq), ?_, h.ro, ?_⟩
  · rw [List.nodup_append]
    exact ⟨h.nd, List.nodup_cons.mpr ⟨List.not_mem_nil, List.nodup_nil⟩, fun a ha b hb => by
      rw [List.mem_singleton.mp hb]
      exact fun z => hqs (z ▸ ha)⟩
  · rw [List.mem_append]
    exact fun z => z.elim h.pq (fun z => hpq (List.mem_singleton.mp z))
theorem MFc.none (h : MFc S p r o qs F) : ∀ a ∈ cells p r o qs, S.G a = none := fun a ha => by
  rcases List.mem_cons.mp ha with e | ha
  · rw [e]
    exact h.ip.1
  rcases List.mem_cons.mp ha with e | ha
  · rw [e]
    exact h.ir.1
  rcases List.mem_cons.mp ha with e | ha
  · rw [e]
    exact h.io.1
  obtain ⟨x, hx⟩ := Paired.ex_r h.iq ha
  exact hx.1
/-- no tuple among them -/
theorem MFc.noT (h : MFc S p r o qs F) {vs : List V} : ∀ a ∈ cells p r o qs, S.H a ≠ some (.tup vs) := fun a ha => by
  rcases List.mem_cons.mp ha with e | ha
  · obtain ⟨_, _, _, q, _⟩ := h.ip
    rw [e, q]
    exact fun z => nomatch z
  rcases List.mem_cons.mp ha with e | ha
  · obtain ⟨_, _, q, _⟩ := h.ir
    rw [e, q]
    exact fun z => nomatch z
  rcases List.mem_cons.mp ha with e | ha
  · obtain ⟨_, _, q, _⟩ := h.io
    rw [e, q]
    exact fun z => nomatch z
  obtain ⟨x, _, _, _, q, _⟩ := Paired.ex_r h.iq ha
  rw [q]
  exact fun z => nomatch z
theorem MFc.there (h : MFc S p r o qs F) : ∀ a ∈ cells p r o qs, S.H a ≠ Option.none := fun a ha => by
  rcases List.mem_cons.mp ha with e | ha
  · exact e ▸ h.ip.there
  rcases List.mem_cons.mp ha with e | ha
  · exact e ▸ h.ir.there
  rcases List.mem_cons.mp ha with e | ha
  · exact e ▸ h.io.there
  obtain ⟨x, hx⟩ := Paired.ex_r h.iq ha
  exact hx.there
/-- the same cells, elsewhere -/
theorem MFc.cong {T : HS} (h : MFc S p r o qs F) (s : Same S.G T.G) (hn : ∀ a ∈ cells p r o qs, T.G a = Option.none) (e : ∀ a ∈ cells p r o qs, ∀ u, S.H a = some u → T.H a = some u) : MFc T p r o qs F := by
  have c1 : p ∈ cells p r o qs := List.mem_cons_self
  have c2 : r ∈ cells p r o qs := List.mem_cons_of_mem _ List.mem_cons_self
  have c3 : o ∈ cells p r o qs := List.mem_cons_of_mem _ (List.mem_cons_of_mem _ List.mem_cons_self)
  refine ⟨?_, ?_, ?_, Paired.imp2 (fun q hq x m => ?_) h.iq, h.nd, h.ro, h.pq⟩
  · obtain ⟨_, dx, fs, q, f⟩ := h.ip
    exact ⟨hn _ c1, dx, fs, e _ c1 _ q, f.mono s⟩
  · obtain ⟨_, vs, q, f⟩ := h.ir
    exact ⟨hn _ c2, vs, e _ c2 _ q, f.mono s⟩
  · obtain ⟨_, vs, q, f⟩ := h.io
    exact ⟨hn _ c3, vs, e _ c3 _ q, f.mono s⟩
  · obtain ⟨_, dx, fs, q2, f⟩ := m
    have c4 : q ∈ cells p r o qs := List.mem_cons_of_mem _ (List.mem_cons_of_mem _ (List.mem_cons_of_mem _ hq))
    exact ⟨hn _ c4, dx, fs, e _ c4 _ q2, f.mono s⟩
theorem flM_inv {G : Hp} {fs : List (Str × V)} {fl : Flo} {pt : Int} (h : fldsR G fs (flM fl pt r o)) : ∃ v, fs = [(("floor" : Str), v), (("patience" : Str), V.int pt), (("robots" : Str), V.ref r), (("orders" : Str), V.ref o)] ∧ Rp.rep G v fl := by
  cases h with
  | cons a h =>
  cases h with
  | cons b h =>
  cases h with
  | cons c' h =>
  cases h with
  | cons d h =>
  cases h
  cases (show _ = V.int pt from b)
  cases (show _ = V.ref r from c')
  cases (show _ = V.ref o from d)
  exact ⟨_, rfl, a⟩
/-- fixed, it is a fleet -/
theorem MFc.rep (h : MFc S p r o qs F) : Rp.rep (S.frz (cells p r o qs)).G (.ref p) F := by
  have c1 : p ∈ cells p r o qs := List.mem_cons_self
  have c2 : r ∈ cells p r o qs := List.mem_cons_of_mem _ List.mem_cons_self
  have c3 : o ∈ cells p r o qs := List.mem_cons_of_mem _ (List.mem_cons_of_mem _ List.mem_cons_self)
  have s : Same S.G (S.frz (cells p r o qs)).G := same_frz
  obtain ⟨_, dx, fs, q, f⟩ := h.ip
  obtain ⟨v, rfl, hv⟩ := flM_inv f
  obtain ⟨_, vs, q2, f2⟩ := h.ir
  obtain ⟨_, ws, q3, f3⟩ := h.io
  refine ⟨p, dx, _, rfl, (HS.frz_in c1).trans q, .cons (Rp.mono s hv) (.cons rfl (.cons ⟨r, vs, rfl, (HS.frz_in c2).trans q2, f2.mono s⟩ (.cons ⟨o, ws, rfl, (HS.frz_in c3).trans q3, ?_⟩ .nil)))⟩
  have key : ∀ {as : List Addr} {xs : List Odr} {ws : List V}, (∀ a ∈ as, a ∈ cells p r o qs) → Paired (fun q x => MI S q "Order" (flOdr x)) as xs → reps S.G ws (as.map Adr.mk) → reps (S.frz (cells p r o qs)).G ws xs := by
    intro as
    induction as with
    | nil =>
      intro xs ws _ h1 h2
      cases h1
      cases h2
      exact .nil
    | cons a as ih =>
      intro xs ws hc h1 h2
      cases h1 with
      | cons m t =>
      cases h2 with
      | cons e t2 =>
      refine .cons ?_ (ih (fun b hb => hc b (List.mem_cons_of_mem _ hb)) t t2)
      cases (show _ = V.ref a from e)
      obtain ⟨_, dx, fs, q, f⟩ := m
      exact ⟨a, dx, fs, rfl, (HS.frz_in (hc a List.mem_cons_self)).trans q, f.mono s⟩
  exact key (fun a ha => List.mem_cons_of_mem _ (List.mem_cons_of_mem _ (List.mem_cons_of_mem _ ha))) h.iq f3
/-- made since H0 -/
def MF (S0 S : HS) (p : Addr) (F : Flt) : Prop := ∃ r o qs, MFc S p r o qs F ∧ ∀ a ∈ cells p r o qs, S0.H a = none
theorem MF.up {S1 : HS} (h : MF S0 S p F) (g : Grow S S1) : MF S0 S1 p F := let ⟨r, o, qs, m, f⟩ := h; ⟨r, o, qs, m.up g, f⟩
structure NewF (H0 : Hp) where
  x : Flt
instance {H0 : Hp} : Rp (NewF H0) := ⟨fun H v y => ∃ (S : HS) (p r o : Addr) (qs : List Addr), S.H = H ∧ v = .ref p ∧ MFc S p r o qs y.x ∧ ∀ a ∈ cells p r o qs, H0 a = none,
  fun {H H' v y} s ⟨S, p, r, o, qs, e, ev, m, f⟩ => ⟨⟨S.G, H', S.le.trans (e ▸ s)⟩, p, r, o, qs, rfl, ev, m.up ⟨e ▸ s, Same.refl _, fun _ _ z => z⟩, f⟩⟩
theorem newF_old {H0 H : Hp} {v : V} {y : NewF H0} (h : Rp.rep H v y) : Rp.rep H v y.x := by
  obtain ⟨S, p, r, o, qs, e, ev, m, f⟩ := h
  subst e
  subst ev
  exact Rp.mono (S.frz (cells p r o qs)).le m.rep
theorem newF_less {H0 H1 H : Hp} {v : V} {y : NewF H1} (s : Same H0 H1) (h : Rp.rep H v y) : Rp.rep H v (⟨y.x⟩ : NewF H0) := by
  obtain ⟨S, p, r, o, qs, e, ev, m, f⟩ := h
  exact ⟨S, p, r, o, qs, e, ev, m, fun a ha => s.free (f a ha)⟩
variable {X : Cx} {e a b : Expr} {es : List Expr} {Γ : Gm} {pos : Pos} {D : Ends} {rest : List Stmt}
theorem slot_eq {G : Hp} {σ : L2.St} {i : Nat} {q : Addr} (hσ : Slots G σ Γ) (hΓ : Γ[i]? = some (some ⟨(⟨q⟩ : Adr)⟩)) : σ.set i (some (.ref q)) = σ := by
  obtain ⟨v, e1, rv⟩ := hσ.at_ i _ hΓ
  cases (show v = V.ref q from rv)
  obtain ⟨hl, e2⟩ := List.getElem?_eq_some_iff.mp e1
  rw [← e2, List.set_getElem_self]
/-- now it is fixed -/
theorem SB.fixF {sts : List Stmt} (i : Nat) (gg : Grow S0 S) (hM : MF S0 S p F) (k : ∀ S' : HS, S'.H = S.H → Grow S0 S' → Same S.G S'.G → SB X sts D (Γ.set i (some ⟨(⟨F⟩ : NewF S0.H)⟩)) S')
    (hΓ : Γ[i]? = some (some ⟨(⟨p⟩ : Adr)⟩) := by rfl) : SB X sts D Γ S := fun σ hσ => by
  obtain ⟨r, o, qs, m, f⟩ := hM
  refine k (S.frz (cells p r o qs)) rfl (gg.frz f) same_frz σ ?_
  rw [← slot_eq hσ hΓ]
  refine (hσ.mono same_frz).set i (t := ⟨(⟨F⟩ : NewF S0.H)⟩) ⟨⟨S.G, (S.frz (cells p r o qs)).G, same_frz⟩, p, r, o, qs, rfl, rfl, m.cong (Same.refl _) m.none (fun a ha u q => (HS.frz_in ha).trans q), f⟩
/-- now it may change again; the rest is forgotten -/
theorem SB.thaw {sts : List Stmt} (i : Nat) (gg : Grow S0 S) (k : ∀ (S' : HS) (p : Addr), S'.H = S.H → Grow S0 S' → MF S0 S' p F → SB X sts D ((List.replicate Γ.length none).set i (some ⟨(⟨p⟩ : Adr)⟩)) S')
    (hΓ : Γ[i]? = some (some ⟨(⟨F⟩ : NewF S0.H)⟩) := by rfl) : SB X sts D Γ S := fun σ hσ => by
  obtain ⟨v, e1, ⟨T, p, r, o, qs, e, ev, m, f⟩⟩ := hσ.at_ i _ hΓ
  have ev : v = .ref p := ev
  subst ev
  have sT : Same T.G (S.thw (cells p r o qs)).G := fun a u q => by
    have hn : a ∉ cells p r o qs := fun z => by
      rw [m.none a z] at q
      cases q
    rw [HS.thw_out hn, ← show T.H = S.G from e]
    exact T.le a u q
  have mm : MFc (S.thw (cells p r o qs)) p r o qs F := m.cong sT (fun a ha => HS.thw_in ha) (fun a ha u q => S.le a u (by rw [← show T.H = S.G from e]; exact q))
  refine k (S.thw (cells p r o qs)) p rfl (gg.thw f) ⟨r, o, qs, mm, f⟩ σ ⟨by rw [List.length_set, List.length_replicate]; exact hσ.len, fun j t ht => ?_⟩
  by_cases hij : i = j
  · subst hij
    have hl : i < Γ.length := (List.getElem?_eq_some_iff.mp hΓ).1
    rw [List.getElem?_set_self (by rw [List.length_replicate]; exact hl)] at ht
    cases ht
    exact ⟨_, e1, rfl⟩
  · rw [List.getElem?_set_ne hij, List.getElem?_replicate] at ht
    split at ht <;> cases ht
/-- what reads it does not keep it -/
theorem er_thaw {i : Nat} {y : Option (Int × Int)} (hM : MF S0 S p F) (h : ∀ T, ER X e (Γ.set i (some ⟨F⟩)) T y) (hΓ : Γ[i]? = some (some ⟨(⟨p⟩ : Adr)⟩) := by rfl) : ER X e Γ S y := fun σ hσ S1 g Q k => by
  obtain ⟨r, o, qs, m0, f⟩ := hM
  have m := m0.up g
  refine h (S1.frz (cells p r o qs)) σ ?_ _ (.refl _) Q fun S2 v g2 rv => ?_
  · rw [← slot_eq hσ hΓ]
    exact ((hσ.mono g.g).mono same_frz).set i (t := ⟨F⟩) m.rep
  have s3 : Grow S1 (S2.thw (cells p r o qs)) := ⟨g2.h, fun a u q => by
      have hn : a ∉ cells p r o qs := fun z => by
        rw [m.none a z] at q
        cases q
      rw [HS.thw_out hn]
      exact g2.g a u ((HS.frz_out hn).trans q), fun q h1 h2 => by
      by_cases hq : q ∈ cells p r o qs
      · exact HS.thw_in hq
      · rw [HS.thw_out hq]
        exact g2.n q h1 ((HS.frz_out hq).trans h2)⟩
  refine k (S2.thw (cells p r o qs)) v s3 ?_
  cases y with
  | none => exact rv
  | some y =>
    obtain ⟨hv, a, u, w, e1, e2, r1, r2⟩ := rv
    refine ⟨hv, a, u, w, e1, ?_, r1, r2⟩
    have hn : a ∉ cells p r o qs := fun z => by
      cases e3 : S1.H a with
      | none => exact m.there a z e3
      | some u' =>
        have e4 := (g2.h a u' e3).symm.trans (S2.le a _ e2)
        cases e4
        exact m.noT a z e3
    rw [HS.thw_out hn]
    exact e2
end
end Fl

set_option Elab.async false
set_option linter.all false
set_option maxRecDepth 100000
set_option maxHeartbeats 4000000
namespace Fl
open PySem PySem.Spec PyProof.Rows L2
section
variable [c : Ctx]
variable {X : Cx} {e a b tg elt iter : Expr} {es : List Expr} {Γ : Gm} {S S0 : HS} {pos : Pos} {D : Ends} {rest : List Stmt} {p : Addr} {F : Flt}
theorem MF.less {S00 : HS} (g : Grow S00 S0) (h : MF S0 S p F) : MF S00 S p F := let ⟨r, o, qs, m, f⟩ := h; ⟨r, o, qs, m, fun a ha => g.h.free (f a ha)⟩
/-- p.f = a new list -/
theorem s_fldN {α : Type} [Rp α] {k0 : Nat} [hX : InC k0 X] {cls : Str} {fl : List (Str × TV)} {f : Str} {xs : List α} {o : Expr} {pos' : Pos} (hm : MI S p cls fl) (he : EN X e Γ S xs) (ho : ER X o Γ S (⟨p⟩ : Adr)) (hc : Cls c.K (He.ga c.K cls)) (hn : NoAttr c.K (He.ga c.K cls) f) (hl : Nat.ble (fl.length + 1) 100 = true)
    (k : ∀ (S2 : HS) (r : Addr), Upd S p S2 → S.H r = none → ML S2 r xs → MI S2 p cls (putT f ⟨(⟨r⟩ : Adr)⟩ fl) → SB X rest D Γ S2) (hs : swapsWith e (some (.Attribute o f pos')) pos.line X.env = pure false := by rfl) : SB X (.Assign [.Attribute o f pos'] e pos :: rest) D Γ S := fun σ hσ => by
  refine w_cons (w_ps (ps_fld pe_w pe_w hs) (he σ hσ S (.refl _) _ fun S1 r g1 hr m1 => ho σ hσ S1 g1 _ fun S2 u g2 ru => ?_))
  obtain ⟨n3, dx, fs, h3, r3⟩ := hm.up (g1.trans g2)
  refine ⟨p, _, dx, fs, ru, h3, by rw [hX.K]; exact hc, by rw [hX.K]; exact hn, by rw [r3.len]; have := Nat.le_of_ble_eq_true hl; omega, ?_⟩
  have u2 : Upd S2 p (S2.add p (.ins (He.ga c.K cls) dx (putF f (.ref r) fs)) n3) := Upd.add n3
  have hne : r ≠ p := fun z => hm.there (z ▸ hr)
  exact k _ r (u2.after (g1.trans g2)) hr ((m1.up g2).upd u2 hne) ⟨n3, dx, _, upd_same, r3.put (t := ⟨(⟨r⟩ : Adr)⟩) rfl⟩ σ (hσ.mono (g1.trans g2).g)
theorem tYes_in {σ : L2.St} {H : Hp} {A B : Hp → Prop} (h : A H) : tYes σ H (fun b H' => if b = true then A H' else B H') := Eq.mpr (if_pos rfl : (if true = true then A H else B H) = A H) h
/-- [order.twin() for order in ..] -/
theorem lc_new {xs : List Odr} {wi : TI} {te : TE} {n : Nat} {σ : L2.St} (hσ : Slots S.G σ Γ) {T : HS} (gT : Grow S T) (hz : xs.length ≤ 100000)
    (hwi : ∀ R : It → Hp → Prop, (∀ S2 J, Grow T S2 → Yields J S2.G xs → R J S2.H) → wi σ T.H R)
    (he : ∀ x, x ∈ xs → ∀ S2, Grow S S2 → ∀ σ2, Slots S2.G σ2 (Gx Γ n x) → ∀ Q : VK, (∀ S3 q, Grow S2 S3 → S2.H q = none → MI S3 q "Order" (flOdr x) → Q (.ref q) S3.H) → te σ2 S2.H Q)
    {Q : VK} (k : ∀ S2 D qs, Grow T S2 → T.H D = none → ML S2 D (qs.map Adr.mk) → Paired (fun q x => MI S2 q "Order" (flOdr x)) qs xs → qs.Nodup → (∀ q ∈ qs, T.H q = none) → Q (.ref D) S2.H) : tLc wi (gName n) tYes te [n] σ T.H Q := by
  refine hwi _ fun T1 J g1 Y D hD => ?_
  refine ⟨fun i m H => m = xs.length - i ∧ i ≤ xs.length ∧ ∃ (S' : HS) (qs : List Addr), S'.H = H ∧ Grow T1 S' ∧ ML S' D (qs.map Adr.mk) ∧ Paired (fun q x => MI S' q "Order" (flOdr x)) qs (xs.take i) ∧ qs.Nodup ∧ ∀ q ∈ qs, T1.H q = none,
    ⟨xs.length, by rw [Nat.sub_zero], Nat.zero_le _, T1.add D (.lst []) (T1.le.free hD), [], rfl, .add T1 D _ hD, ⟨T1.le.free hD, [], upd_same, .nil⟩, .nil, List.nodup_nil, fun q hq => by cases hq⟩, ?_⟩
  rintro i m H ⟨rfl, hi, S', qs, rfl, g', hM, hP, hnd, hfr⟩
  by_cases hlt : i < xs.length
  · refine .inr ⟨Y.go i S' g'.g hlt, fun H' => ∃ (S2 : HS) (qs : List Addr), S2.H = H' ∧ Grow T1 S2 ∧ ML S2 D (qs.map Adr.mk) ∧ Paired (fun q x => MI S2 q "Order" (flOdr x)) qs (xs.take (i + 1)) ∧ qs.Nodup ∧ ∀ q ∈ qs, T1.H q = none, fun H' q => ⟨xs.length - (i + 1), by omega, rfl, hlt, q⟩, fun v H' y => ?_⟩
    obtain ⟨S2, rfl, g2, x, hx, r⟩ := Y.yld i S' v H' g'.g hlt y
    have hm : x ∈ xs := List.mem_of_getElem? hx
    have gS : Grow S S2 := ((gT.trans g1).trans g').trans g2
    have hs2 : Slots S2.G ((L2.wipe σ [n]).set n (some v)) (Gx Γ n x) := ((hσ.mono gS.g).wipe [n]).set n (t := ⟨x⟩) r
    refine ⟨wipe_again, ?_⟩
    have et : xs.take (i + 1) = xs.take i ++ [x] := by rw [List.take_add_one, hx]; rfl
    refine tYes_in (he x hm S2 gS _ hs2 _ fun S4 w g4 hw mw => ?_)
    obtain ⟨n4, vs, h4, r'⟩ := hM.up (g2.trans g4)
    have hl : vs.length < sizeLine := by
      have hq := Paired.length hP
      rw [r'.len, List.length_map, hq]
      have h2 : (xs.take i).length ≤ i := List.length_take_le _ _
      exact Nat.lt_of_lt_of_le (show _ < 100001 by omega) (by decide)
    have u5 : Upd S4 D (S4.add D (.lst (vs ++ [V.ref w])) n4) := Upd.add n4
    have hDq : ∀ q ∈ qs, q ≠ D := fun q hq z => by
      obtain ⟨y, hy⟩ := Paired.ex_r hP hq
      exact hy.neL hM z
    have hwq : w ∉ qs := fun z => by
      obtain ⟨y, hy⟩ := Paired.ex_r hP z
      exact (hy.up g2).there hw
    have hwD : w ≠ D := fun z => (hM.up g2).there (z ▸ hw)
    refine ⟨vs, h4, hl, S4.add D (.lst (vs ++ [V.ref w])) n4, qs ++ [w], rfl, ((g'.trans g2).trans g4).mut hD n4, ⟨n4, vs ++ [V.ref w], upd_same, ?_⟩, ?_, ?_, ?_⟩
    · rw [List.map_append]
      exact r'.app (.cons rfl .nil)
    · rw [et]
      exact Paired.snoc (R := fun q x => MI (S4.add D (.lst (vs ++ [V.ref w])) n4) q "Order" (flOdr x)) (mw.upd u5 hwD) (Paired.imp2 (fun q hq _ m => MI.upd (m.up (g2.trans g4)) u5 (hDq q hq)) hP)
    · rw [List.nodup_append]
      exact ⟨hnd, List.nodup_cons.mpr ⟨List.not_mem_nil, List.nodup_nil⟩, fun a ha b hb => by
        rw [List.mem_singleton.mp hb]
        exact fun z => hwq (z ▸ ha)⟩
    · intro q hq
      rcases List.mem_append.mp hq with hq | hq
      · exact hfr q hq
      · rw [List.mem_singleton.mp hq]
        exact (g'.trans g2).h.free hw
  · have e : i = xs.length := by omega
    subst e
    rw [List.take_length] at hP
    exact .inl ⟨Y.stop _ S' g'.g (Nat.le_refl _), k S' D qs (g1.trans g') (g1.h.free hD) hM hP hnd fun q hq => g1.h.free (hfr q hq)⟩
/-- e gives a new list of new orders -/
def ENO (X : Cx) (e : Expr) (Γ : Gm) (S : HS) (xs : List Odr) : Prop :=
  ∀ σ, Slots S.G σ Γ → ∀ S1, Grow S S1 → ∀ Q : VK, (∀ S2 D qs, Grow S1 S2 → S1.H D = none → ML S2 D (qs.map Adr.mk) → Paired (fun q x => MI S2 q "Order" (flOdr x)) qs xs → qs.Nodup → (∀ q ∈ qs, S1.H q = none) → Q (.ref D) S2.H) → wE X e σ S1.H Q
theorem eno_lc {scope : Scope} {nm : Str} {npos mpos cpos : Pos} {xs : List Odr} {k0 : Nat} [hX : InC k0 X] (n : Nat) (hc : X.calm = true) (hN : X.N.Nodup) (hi : IT X (.Name nm npos) iter Γ S xs) (hz : xs.length ≤ 100000) (ok : BlkOk X.N X.env.scope scope [(nm, n)])
    (ho : ∀ x, x ∈ xs → ∀ S2, Grow S S2 → ∀ X', Blk X scope X' → ER X' a (Gx Γ n x) S2 x)
    (ht : ∀ X', Blk X scope X' → ∃ pl : Sem Bool, eval (.Call (.Attribute a "twin" mpos) [] [] cpos) X'.env = (do
      let ov ← eval a X'.env
      standAt mpos.atName
      let (f, first) ← holding [ov] (getMethod ov "twin" pl)
      callWith cpos f first (backTo cpos (starEach [] X'.env)) (backToKw cpos (keywordEach [] X'.env)))) (hj : 3 ≤ k0 := by decide)
    (hx : (relabel scope X.env).names.lookup nm = some .local := by rfl) (hn : X.N[n]? = some nm := by rfl) (hs : ∀ x, foldedSetIterable iter X.env x = pure x := by intro _; rfl) :
    ENO X (.ListComp (.Call (.Attribute a "twin" mpos) [] [] cpos) [⟨.Name nm npos, iter, [], 0⟩] scope pos) Γ S xs := fun σ hσ S1 g Q k => by
  obtain ⟨wi, hwi, ki⟩ := hi
  refine w_pe (pe_lc (own := [(nm, n)]) (g := gName n) (tt := tYes) (te := bE X scope (.Call (.Attribute a "twin" mpos) [] [] cpos)) hc hN hwi ok (fun s H C cl fp => pg_name hN hn (.inl hx) (.inr hx)) (fun _ _ _ _ _ => pts_nil) (fun s H C cl fp => ⟨fun pins s1 σ1 H1 Q1 I1 h1 => h1 s H C cl fp pins s1 I1⟩) hs) ?_
  refine lc_new hσ g hz (fun R q => ki σ hσ S1 g R q) (fun x hx S2 g2 σ2 hs2 Q2 kk => fun s H0 C cl fp => ?_) k
  have hb : Blk X scope (X.blk s H0 scope (compEnvC scope cl C X.env) fp) := ⟨s, H0, C, cl, fp, rfl⟩
  obtain ⟨f, fd, ps, F, hme, hcl, hbd⟩ := (cal_Order_twin (c := c)).ex
  have hX' : InC k0 (X.blk s H0 scope (compEnvC scope cl C X.env) fp) := inferInstance
  obtain ⟨pl, ht⟩ := ht _ hb
  refine w_pe (pe_meth0 pe_w (by rw [hX'.K]; exact hcl) (by rw [hX'.K]; exact hme) (fn_in hX' F) (hX'.room.mono hj) (by rw [hX'.K]; exact hbd) .nil pass0 ht) (ho x hx S2 g2 _ hb σ2 hs2 S2 (.refl _) _ fun S3 v g3 r => ?_)
  obtain ⟨q, dx, fs, e1, e2, r2⟩ := (show repObj "Order" (flOdr x) S3.G v from r)
  exact ⟨q, dx, fs, e1, S3.le _ _ e2, r2.no (lOdr_twin_no x), S3, (x, ()), rfl, ⟨v, [], rfl, r, rfl⟩, trivial, fun S4 q4 g4 h4 m4 => kk S4 q4 (g3.trans g4) (g3.h.free h4) m4⟩
theorem s_fldO {k0 : Nat} [hX : InC k0 X] {cls : Str} {fl : List (Str × TV)} {f : Str} {xs : List Odr} {o : Expr} {pos' : Pos} (hm : MI S p cls fl) (he : ENO X e Γ S xs) (ho : ER X o Γ S (⟨p⟩ : Adr)) (hc : Cls c.K (He.ga c.K cls)) (hn : NoAttr c.K (He.ga c.K cls) f) (hl : Nat.ble (fl.length + 1) 100 = true)
    (k : ∀ (S2 : HS) (r : Addr) (qs : List Addr), Upd S p S2 → S.H r = none → ML S2 r (qs.map Adr.mk) → Paired (fun q x => MI S2 q "Order" (flOdr x)) qs xs → qs.Nodup → (∀ q ∈ qs, S.H q = none) → MI S2 p cls (putT f ⟨(⟨r⟩ : Adr)⟩ fl) → SB X rest D Γ S2) (hs : swapsWith e (some (.Attribute o f pos')) pos.line X.env = pure false := by rfl) : SB X (.Assign [.Attribute o f pos'] e pos :: rest) D Γ S := fun σ hσ => by
  refine w_cons (w_ps (ps_fld pe_w pe_w hs) (he σ hσ S (.refl _) _ fun S1 r qs g1 hr m1 hP hnd hfr => ho σ hσ S1 g1 _ fun S2 u g2 ru => ?_))
  obtain ⟨n3, dx, fs, h3, r3⟩ := hm.up (g1.trans g2)
  refine ⟨p, _, dx, fs, ru, h3, by rw [hX.K]; exact hc, by rw [hX.K]; exact hn, by rw [r3.len]; have := Nat.le_of_ble_eq_true hl; omega, ?_⟩
  have u2 : Upd S2 p (S2.add p (.ins (He.ga c.K cls) dx (putF f (.ref r) fs)) n3) := Upd.add n3
  have hne : r ≠ p := fun z => hm.there (z ▸ hr)
  exact k _ r qs (u2.after (g1.trans g2)) hr ((m1.up g2).upd u2 hne) (Paired.imp2 (fun q hq _ m => MI.upd (m.up g2) u2 (fun z => hm.there (z ▸ hfr q hq))) hP) hnd hfr ⟨n3, dx, _, upd_same, r3.put (t := ⟨(⟨r⟩ : Adr)⟩) rfl⟩ σ (hσ.mono (g1.trans g2).g)
/-! ### Fleet.twin -/
def Flt.Few (F : Flt) : Prop := F.robots.length ≤ 1000 ∧ F.orders.length ≤ 10000
def SpTw : Sp := fun vs H Q _ => ∃ (S : HS) (F : Flt), S.H = H ∧ Args.reps S.G vs (F, ()) ∧ F.Few ∧ ∀ (S1 : HS) (p : Addr), Grow S S1 → MF S S1 p F → Q (.ref p) S1.H
theorem cal_Fleet_twin : MCal "Fleet" "twin" 5 SpTw := by
  refine mcal_sp (d := d_Fleet_twin) (i := i_Fleet_twin) rfl sc_Fleet_twin m_Fleet_twin c_Fleet (fun vs H Q E ⟨S, a, _, hr, _⟩ => Args.len hr) (fun f cdv A outer s H vs Q E hX h => ?_) (fun _ _ _ _ _ _ us hl => match us, hl with | [_], _ => rfl)
  obtain ⟨S, x, rfl, ha, ⟨few1, few2⟩, hq⟩ := h
  obtain ⟨v, _, rfl, hv, rfl⟩ := ha
  have nd := sc_Fleet_twin.nd
  refine (show SB (bx d_Fleet_twin N_Fleet_twin f cdv A outer s S.H E) _ _ [some ⟨x⟩, none, none, none] S from ?_) _ (Slots.cons (t := ⟨x⟩) hv (Slots.nones 3))
  refine s_setI 1 nd (ni_Fleet (n := 0) (eFlt_floor (er_var 0)) er_int (eFlt_patience (er_var 0)) (by decide) (by decide)) fun S1 p g1 hp m1 => ?_
  refine s_fldN m1 (en_lc (h := fun x : Rob => x) 2 rfl nd (it_list (eFlt_robots (er_var 0))) (by omega) (blkOk_by (N := N_Fleet_twin) (sc := defScope s_Fleet_twin) (by decide +kernel)) fun y _ S2 g2 X' hb => ?_) (er_var 1) c_Fleet n_Fleet_robots rfl fun S2 r u2 hr mr m2 => ?_
  · obtain ⟨_, _, _, _, _, rfl⟩ := hb
    exact (ev_meth0 (cal_Robot_twin) (fun _ _ h => h) (lRob_twin_no y) (er_var 2) trivial).er
  rw [List.map_id'] at mr
  refine s_fldO m2 (eno_lc (xs := x.orders) 3 rfl nd (it_list (eFlt_orders (er_var 0))) (by omega) (blkOk_by (N := N_Fleet_twin) (sc := defScope s_Fleet_twin) (by decide +kernel)) (fun y _ S2 g2 X' hb => ?_) (fun X' hb => ?_)) (er_var 1) c_Fleet n_Fleet_orders rfl fun S3 o qs u3 ho mo hP hnd hfr m3 => ?_
  · obtain ⟨_, _, _, _, _, rfl⟩ := hb
    exact er_var 3
  · obtain ⟨_, _, _, _, _, rfl⟩ := hb
    exact ⟨_, rfl⟩
  have hrp : r ≠ p := fun z => m1.there (z ▸ hr)
  have h0 : ∀ q, S2.H q = none → S.H q = none := fun q hq => ((g1.upd hp u2).h.free hq)
  refine s_ret (er_var 1) fun S4 v g4 rv => ?_
  cases (show v = V.ref p from rv)
  refine hq S4 p (((g1.upd hp u2).upd hp u3).trans g4) ⟨r, o, qs, ⟨m3.up g4, (mr.upd u3 hrp).up g4, mo.up g4, Paired.imp2 (fun _ _ _ m => m.up g4) hP, hnd, fun z => mr.there (z ▸ ho), fun z => m2.there (hfr p z)⟩, fun a ha => ?_⟩
  rcases List.mem_cons.mp ha with e | ha
  · rw [e]
    exact hp
  rcases List.mem_cons.mp ha with e | ha
  · rw [e]
    exact g1.h.free hr
  rcases List.mem_cons.mp ha with e | ha
  · rw [e]
    exact h0 o ho
  exact h0 a (hfr a ha)
/-- x = e.twin() -/
theorem s_twin {k0 : Nat} [hX : InC k0 X] {nm : Str} {pos' apos : Pos} {pl : Sem Bool} (i : Nat) (hN : X.N.Nodup) (ho : ER X a Γ S F) (hf : F.Few) (k : ∀ (S1 : HS) (p : Addr), Grow S S1 → MF S S1 p F → SB X rest D (Γ.set i (some ⟨(⟨p⟩ : Adr)⟩)) S1) (hj : 5 ≤ k0 := by decide)
    (ht : eval (.Call (.Attribute a "twin" apos) [] [] pos) X.env = (do
      let ov ← eval a X.env
      standAt apos.atName
      let (f, first) ← holding [ov] (getMethod ov "twin" pl)
      callWith pos f first (backTo pos (starEach [] X.env)) (backToKw pos (keywordEach [] X.env))) := by rfl)
    (hi : X.N[i]? = some nm := by rfl) (hx : Loc X.env.scope nm := by first | exact Or.inl rfl | exact Or.inr rfl) {spos : Pos} (hs : swapsWith (.Call (.Attribute a "twin" apos) [] [] pos) (some (.Name nm pos')) spos.line X.env = pure false := by rfl)
    (hfn : X.fn nm = true ∨ X.env.scope.names.lookup nm = some .local := by first | exact .inl rfl | exact .inr rfl) : SB X (.Assign [.Name nm pos'] (.Call (.Attribute a "twin" apos) [] [] pos) spos :: rest) D Γ S := fun σ hσ => by
  obtain ⟨f, fd, ps, FF, hme, hcl, hbd⟩ := (cal_Fleet_twin (c := c)).ex
  refine w_cons (w_ps (ps_set hN hi hx (pe_meth0 pe_w (by rw [hX.K]; exact hcl) (by rw [hX.K]; exact hme) (fn_in hX FF) (hX.room.mono hj) (by rw [hX.K]; exact hbd) .nil pass0 ht) hs hfn) (ho σ hσ S (.refl _) _ fun S2 v g2 r => ?_))
  obtain ⟨q, dx, fs, e1, e2, r2⟩ := (show repObj "Fleet" (flFlt F) S2.G v from r)
  refine ⟨q, dx, fs, e1, S2.le _ _ e2, r2.no (lFlt_twin_no F), S2, F, rfl, ⟨v, [], rfl, r, rfl⟩, hf, fun S3 p g3 m3 => ?_⟩
  exact k S3 p (g2.trans g3) (m3.less g2) _ (Slots.set (t := ⟨(⟨p⟩ : Adr)⟩) (hσ.mono (g2.trans g3).g) i rfl)
end
end Fl

set_option Elab.async false
set_option linter.all false
set_option maxRecDepth 100000
set_option maxHeartbeats 4000000
namespace Fl
open PySem PySem.Spec PyProof.Rows L2
section
variable {α β : Type} [Rp α] [Rp β] {X : Cx} {tg iter cnd : Expr} {Γ : Gm} {S : HS} {pos ipos : Pos} {D : Ends} {rest ret : List Stmt}
theorem Weak.set {i : Nat} {x : Option TV} : ∀ {Γ : Gm} {i : Nat}, Γ[i]? = some none → Weak Γ (Γ.set i x)
  | [], _, e => by simp at e
  | y :: r, 0, e => by
    have e : y = none := by simpa using e
    subst e
    exact .drop (Weak.refl r)
  | y :: r, i + 1, e => .keep (Weak.set (i := i) (by simpa using e))
theorem Weak.trans : ∀ {a b d : Gm}, Weak a b → Weak b d → Weak a d
  | _, _, _, .nil, .nil => .nil
  | _, _, _, .keep h, .keep k => .keep (Weak.trans h k)
  | _, _, _, .keep h, .drop k => .drop (Weak.trans h k)
  | _, _, _, .drop h, .keep k => .drop (Weak.trans h k)
  | _, _, _, .drop h, .drop k => .drop (Weak.trans h k)
theorem find_pre {xs pre r : List α} {x : α} {p : α → Bool} (e : xs = pre ++ x :: r) (h : p x = true) (hp : ∀ y ∈ pre, p y = false) : xs.find? p = some x := by
  subst e
  rw [List.find?_append, List.find?_eq_none.mpr (fun y hy => by rw [hp y hy]; decide), List.find?_cons, h]
  rfl
/-- for tg in iter: if cnd: return .. -/
theorem s_search {xs : List α} {f : Gm → α → Gm} (p : α → Bool) (hp : PassesOwn (model X.prog X.w) X.A X.env X.xe) (hc : X.calm = true) (hi : IT X tg iter Γ S xs) (hg : BG X tg f) (hw : ∀ x, Weak Γ (f Γ x))
    (ht : ∀ x ∈ xs, ∀ S2, Grow S S2 → TR X cnd (f Γ x) S2 (p x))
    (hr : ∀ x ∈ xs, xs.find? p = some x → ∀ S2, Grow S S2 → ∀ D' : Ends, D'.rt = D.rt → SB X ret D' (f Γ x) S2)
    (hn : xs.find? p = none → ∀ S2, Grow S S2 → SB X rest D Γ S2) (hs : ∀ x, foldedSetIterable iter X.env x = pure x := by intro _; rfl) : SB X (.For tg iter [.If cnd ret [] ipos] [] pos :: rest) D Γ S := by
  refine s_for hp hc hi hg (fun S1 g1 => ⟨fun r Γ' S' => Γ' = Γ ∧ Grow S1 S' ∧ ∃ pre, xs = pre ++ r ∧ ∀ y ∈ pre, p y = false, ⟨rfl, .refl _, [], rfl, fun y hy => by cases hy⟩, fun r Γ' S' ⟨_, g, _⟩ => g.g, ?_, ?_⟩) hs
  · rintro pre0 x r Γ' S' hx ⟨rfl, g', pre, hpre, hall⟩ S2 g2
    have hm : x ∈ xs := by rw [hx]; exact List.mem_append_right _ List.mem_cons_self
    have gg := (g1.trans g').trans g2
    refine s_if (ht x hm S2 gg) (fun t S3 g3 => hr x hm (find_pre hpre t hall) S3 (gg.trans g3) _ rfl) (fun t S3 g3 => s_end (s_next (hw x) ⟨rfl, (g'.trans g2).trans g3, pre ++ [x], by rw [hpre, List.append_assoc]; rfl, fun y hy => ?_⟩))
    rcases List.mem_append.mp hy with hy | hy
    · exact hall y hy
    · rw [List.mem_singleton.mp hy]
      exact t
  · rintro Γ' S' ⟨rfl, g', pre, hpre, hall⟩
    rw [List.append_nil] at hpre
    subst hpre
    exact hn (List.find?_eq_none.mpr fun y hy => by rw [hall y hy]; decide) S' (g1.trans g')
end
theorem find_map {α β : Type} {xs : List α} {p : α → Bool} {f : α → β} {x : α} (h : xs.find? p = some x) : (xs.find? p).map f = some (f x) := by rw [h]; rfl
theorem mem_enumI {α : Type} [Rp α] {xs : List α} {i : Int} {x : α} (h : (i, x) ∈ enumI xs) : 0 ≤ i ∧ i < xs.length ∧ xs[i.toNat]? = some x := by
  obtain ⟨k, hk⟩ := List.getElem?_of_mem h
  have hl : k < xs.length := by
    have := (List.getElem?_eq_some_iff.mp hk).1
    rw [enumI_len] at this
    exact this
  rw [enumI_get (List.getElem?_eq_getElem hl)] at hk
  cases hk
  exact ⟨by omega, by omega, by rw [Int.toNat_natCast]; exact List.getElem?_eq_getElem hl⟩
/-! ### what a fleet tells -/
def Flt.off (F : Flt) (r : Rob) : Bool := !decide (r.place = F.floor.depot)
def Flt.closed (F : Flt) : List Int := sortI ((F.robots.filter fun r => r.broken && F.off r).map (·.place))
def Flt.taken (F : Flt) : List Int := sortI ((F.robots.filter F.off).map (·.place))
def Flt.running (F : Flt) : List Int := ((enumI F.robots).filter fun q => F.off q.2 && !q.2.broken).map (·.1)
def Flt.rob (F : Flt) (i : Int) : Rob := F.robots.getD i.toNat ⟨0, false, []⟩
def Flt.keptWays (F : Flt) (ns : List Int) : List (List Int) := ns.map fun n => (F.rob n).way
def Flt.orderOf (F : Flt) (r : Int) : Option Int := ((enumI F.orders).find? fun q => !q.2.done && decide (q.2.robot = some r)).map (·.1)
def Flt.odr (F : Flt) (i : Int) : Odr := F.orders.getD i.toNat ⟨0, 0, false, none, false⟩
def Flt.aim (F : Flt) (n : Int) : List Int := if (F.odr n).loaded then F.floor.stations.getD (F.odr n).goal.toNat [] else F.floor.stations.getD (F.odr n).start.toNat []
def Flt.isFree (F : Flt) (r : Int) : Bool := !(F.rob r).broken && (F.orderOf r).isNone
def Flt.firstOpen (F : Flt) : Int := (((enumI F.orders).find? fun q => !q.2.done).map (·.1)).getD F.orders.length
structure RobOk (f : Flo) (r : Rob) : Prop where
  p0 : 0 ≤ r.place
  p1 : r.place ≤ f.size
  cells : ∀ x ∈ r.way, 0 ≤ x ∧ x < f.size
  still : r.broken = true ∨ r.place = f.depot → r.way = []
  runs : r.broken = false → r.place ≠ f.depot → r.way ≠ []
structure OdrOk (f : Flo) (n : Nat) (o : Odr) : Prop where
  s0 : 0 ≤ o.start
  s1 : o.start < f.stations.length
  g0 : 0 ≤ o.goal
  g1 : o.goal < f.stations.length
  rb : ∀ r, o.robot = some r → 0 ≤ r ∧ r < n
structure Flt.Ok (F : Flt) : Prop where
  fl : F.floor.Ok
  n4 : F.robots.length ≤ 4
  rob : ∀ r ∈ F.robots, RobOk F.floor r
  nd : (F.robots.map (·.way)).flatten.Nodup
  n1k : F.orders.length ≤ 1000
  odr : ∀ o ∈ F.orders, OdrOk F.floor F.robots.length o
  pt0 : 0 ≤ F.patience
  pt1 : F.patience ≤ 1000
theorem Flt.Ok.few {F : Flt} (h : F.Ok) : F.Few := ⟨by have := h.n4; omega, by have := h.n1k; omega⟩
theorem Flt.rob_at {F : Flt} {i : Int} (h0 : 0 ≤ i) (h1 : i < F.robots.length) : F.robots[i.toNat]? = some (F.rob i) := by
  unfold Flt.rob
  rw [List.getD_eq_getElem?_getD, List.getElem?_eq_getElem (by omega)]
  rfl
theorem Flt.odr_at {F : Flt} {i : Int} (h0 : 0 ≤ i) (h1 : i < F.orders.length) : F.orders[i.toNat]? = some (F.odr i) := by
  unfold Flt.odr
  rw [List.getD_eq_getElem?_getD, List.getElem?_eq_getElem (by omega)]
  rfl
theorem Flo.st_at {f : Flo} {i : Int} (h0 : 0 ≤ i) (h1 : i < f.stations.length) : f.stations[i.toNat]? = some (f.stations.getD i.toNat []) := by
  rw [List.getD_eq_getElem?_getD, List.getElem?_eq_getElem (by omega)]
  rfl
theorem Flt.Ok.robI {F : Flt} (h : F.Ok) {i : Int} (h0 : 0 ≤ i) (h1 : i < F.robots.length) : RobOk F.floor (F.rob i) := h.rob _ (List.mem_of_getElem? (Flt.rob_at h0 h1))
theorem Flt.Ok.odrI {F : Flt} (h : F.Ok) {i : Int} (h0 : 0 ≤ i) (h1 : i < F.orders.length) : OdrOk F.floor F.robots.length (F.odr i) := h.odr _ (List.mem_of_getElem? (Flt.odr_at h0 h1))
section
variable [c : Ctx]
theorem cal_closed : MCal "Fleet" "closed" 1 (Spf (fun a : Flt × Unit => a.1.Few) fun a => a.1.closed) := by
  refine mkMCal (d := d_Fleet_closed) i_Fleet_closed sc_Fleet_closed m_Fleet_closed c_Fleet (fun f cdv A outer s S a Q E hp hX hq => ?_) (hb := fun _ _ _ _ _ _ us hl => match us, hl with | [_], _ => rfl)
  obtain ⟨F, ⟨⟩⟩ := a
  obtain ⟨h1, h2⟩ : F.Few := hp
  replace hq : ∀ S1 r y, Grow S S1 → Rp.rep S1.G r y → y = F.closed → Q r S1.H := hq
  have nd := sc_Fleet_closed.nd
  show SB _ _ _ [some ⟨F⟩, none, none] S
  refine s_set 1 nd (eFlo_depot (eFlt_floor (er_var 0))) fun S1 g1 => ?_
  refine s_ret (er_sorted b_sorted (en_lcI (h := fun r : Rob => r.place) 2 (fun r : Rob => r.broken && F.off r) rfl nd (it_list (eFlt_robots (er_var 0))) (by omega) (blkOk_by (N := N_Fleet_closed) (sc := defScope s_Fleet_closed) (by decide +kernel)) (fun x _ S2 g2 X' hb => ?_) (fun x _ _ S2 g2 X' hb => ?_)).er) fun S2 v g2 r => hq S2 v _ (g1.trans g2) r rfl
  · obtain ⟨_, _, _, _, _, rfl⟩ := hb
    exact tr_and (p2 := default) (tr_bool (eRob_broken (er_var 2))) fun _ => tr_cmp (cv_neI (eRob_place (er_var 2)) (er_var 1))
  · obtain ⟨_, _, _, _, _, rfl⟩ := hb
    exact eRob_place (er_var 2)
theorem cal_taken : MCal "Fleet" "taken" 1 (Spf (fun a : Flt × Unit => a.1.Few) fun a => a.1.taken) := by
  refine mkMCal (d := d_Fleet_taken) i_Fleet_taken sc_Fleet_taken m_Fleet_taken c_Fleet (fun f cdv A outer s S a Q E hp hX hq => ?_) (hb := fun _ _ _ _ _ _ us hl => match us, hl with | [_], _ => rfl)
  obtain ⟨F, ⟨⟩⟩ := a
  obtain ⟨h1, h2⟩ : F.Few := hp
  replace hq : ∀ S1 r y, Grow S S1 → Rp.rep S1.G r y → y = F.taken → Q r S1.H := hq
  have nd := sc_Fleet_taken.nd
  show SB _ _ _ [some ⟨F⟩, none, none] S
  refine s_set 1 nd (eFlo_depot (eFlt_floor (er_var 0))) fun S1 g1 => ?_
  refine s_ret (er_sorted b_sorted (en_lcI (h := fun r : Rob => r.place) 2 F.off rfl nd (it_list (eFlt_robots (er_var 0))) (by omega) (blkOk_by (N := N_Fleet_taken) (sc := defScope s_Fleet_taken) (by decide +kernel)) (fun x _ S2 g2 X' hb => ?_) (fun x _ _ S2 g2 X' hb => ?_)).er) fun S2 v g2 r => hq S2 v _ (g1.trans g2) r rfl
  · obtain ⟨_, _, _, _, _, rfl⟩ := hb
    exact tr_cmp (cv_neI (eRob_place (er_var 2)) (er_var 1))
  · obtain ⟨_, _, _, _, _, rfl⟩ := hb
    exact eRob_place (er_var 2)
theorem cal_running : MCal "Fleet" "running" 1 (Spf (fun a : Flt × Unit => a.1.Few) fun a => a.1.running) := by
  refine mkMCal (d := d_Fleet_running) i_Fleet_running sc_Fleet_running m_Fleet_running c_Fleet (fun f cdv A outer s S a Q E hp hX hq => ?_) (hb := fun _ _ _ _ _ _ us hl => match us, hl with | [_], _ => rfl)
  obtain ⟨F, ⟨⟩⟩ := a
  obtain ⟨h1, h2⟩ : F.Few := hp
  replace hq : ∀ S1 r y, Grow S S1 → Rp.rep S1.G r y → y = F.running → Q r S1.H := hq
  have nd := sc_Fleet_running.nd
  show SB _ _ _ [some ⟨F⟩, none, none, none, none] S
  refine s_set 1 nd (eFlo_depot (eFlt_floor (er_var 0))) fun S1 g1 => ?_
  refine s_setN (α := Int) 2 nd en_lst0 fun S2 p g2 hp2 m2 => ?_
  have p0 : S.H p = none := g1.h.free hp2
  refine s_for PassesOwn.never rfl (it_enum b_enumerate (eFlt_robots (er_var 0))) (bg_pair rfl (bg_name 3 nd) (bg_name 4 nd)) fun S3 g3 => ?_
  refine ⟨fun r Γ' S' => ∃ pre, Γ' = [some ⟨F⟩, some ⟨F.floor.depot⟩, some ⟨(⟨p⟩ : Adr)⟩, none, none] ∧ enumI F.robots = pre ++ r ∧ Grow S S' ∧ Same S3.G S'.G ∧ ML S' p ((pre.filter fun q => F.off q.2 && !q.2.broken).map (·.1)), ⟨[], rfl, rfl, (g1.trans g2).trans g3, Same.refl _, m2.up g3⟩, fun r Γ' S' ⟨_, _, _, _, h, _⟩ => h, ?_, ?_⟩
  · rintro pre0 ⟨n, x⟩ r Γ' S' hx ⟨pre, rfl, hpre, gS, s3, m⟩ S4 g4
    have hlen : ((pre.filter fun q => F.off q.2 && !q.2.broken).map (·.1)).length ≤ 1000 := by
      rw [List.length_map]
      have q1 := List.length_filter_le (fun q : Int × Rob => F.off q.2 && !q.2.broken) pre
      have q2 := congrArg List.length hpre
      rw [enumI_len, List.length_append] at q2
      omega
    have snoc : enumI F.robots = (pre ++ [(n, x)]) ++ r := by rw [hpre, List.append_assoc]; rfl
    refine s_if (tr_and (p2 := default) (tr_cmp (cv_neI (eRob_place (er_var 4)) (er_var 1))) fun _ => tr_not (tr_bool (eRob_broken (er_var 4)))) (fun t S5 g5 => ?_) (fun t S5 g5 => s_end (s_next (.keep (.keep (.keep (.drop (.drop .nil))))) ?_))
    · refine s_app ((m.up g4).up g5) (er_var 2) (er_var 3) (by omega) fun S6 u6 m6 => s_end (s_next (.keep (.keep (.keep (.drop (.drop .nil))))) ?_)
      refine ⟨pre ++ [(n, x)], rfl, snoc, ((gS.trans g4).trans g5).upd p0 u6, (s3.trans (g4.trans g5).g).trans u6.g, ?_⟩
      rw [List.filter_append, List.filter_cons, if_pos (show (F.off x && !x.broken) = true from t), List.filter_nil, List.map_append]
      exact m6
    · refine ⟨pre ++ [(n, x)], rfl, snoc, (gS.trans g4).trans g5, s3.trans (g4.trans g5).g, ?_⟩
      rw [List.filter_append, List.filter_cons, if_neg (by rw [show (F.off x && !x.broken) = false from t]; decide), List.filter_nil, List.append_nil]
      exact (m.up g4).up g5
  · rintro Γ' S' ⟨pre, rfl, hpre, gS, _, m⟩
    rw [List.append_nil] at hpre
    refine SB.fixM 2 gS p0 m fun S5 e5 g5 _ _ => ?_
    exact s_ret (er_var 2) fun S6 v g6 r => hq S6 v _ (g5.trans g6) r (by unfold Flt.running; rw [hpre])
theorem cal_kept : MCal "Fleet" "kept_ways" 1 (Spf (fun a : Flt × List Int × Unit => a.1.Few ∧ a.2.1.length ≤ 1000 ∧ ∀ n ∈ a.2.1, 0 ≤ n ∧ n < a.1.robots.length) fun a => a.1.keptWays a.2.1) := by
  refine mkMCal (d := d_Fleet_kept_ways) i_Fleet_kept_ways sc_Fleet_kept_ways m_Fleet_kept_ways c_Fleet (fun f cdv A outer s S a Q E hp hX hq => ?_) (hb := fun _ _ _ _ _ _ us hl => match us, hl with | [_, _], _ => rfl)
  obtain ⟨F, ns, ⟨⟩⟩ := a
  obtain ⟨h1, h2, h3⟩ : F.Few ∧ ns.length ≤ 1000 ∧ ∀ n ∈ ns, 0 ≤ n ∧ n < F.robots.length := hp
  replace hq : ∀ S1 r y, Grow S S1 → Rp.rep S1.G r y → y = F.keptWays ns → Q r S1.H := hq
  have nd := sc_Fleet_kept_ways.nd
  show SB _ _ _ [some ⟨F⟩, some ⟨ns⟩, none] S
  refine s_ret (en_lc (h := fun n => (F.rob n).way) 2 rfl nd (it_list (er_var 1)) (by omega) (blkOk_by (N := N_Fleet_kept_ways) (sc := defScope s_Fleet_kept_ways) (by decide +kernel)) (fun x hx S2 g2 X' hb => ?_)).er fun S2 v g2 r => hq S2 v _ g2 r rfl
  obtain ⟨_, _, _, _, _, rfl⟩ := hb
  exact er_list b_list (eRob_way (er_ix (eFlt_robots (er_var 0)) (er_var 2) (h3 x hx).1 (Flt.rob_at (h3 x hx).1 (h3 x hx).2)))
theorem cal_order_of : MCal "Fleet" "order_of" 1 (Spf (fun a : Flt × Int × Unit => True) fun a => a.1.orderOf a.2.1) := by
  refine mkMCal (d := d_Fleet_order_of) i_Fleet_order_of sc_Fleet_order_of m_Fleet_order_of c_Fleet (fun f cdv A outer s S a Q E hp hX hq => ?_) (hb := fun _ _ _ _ _ _ us hl => match us, hl with | [_, _], _ => rfl)
  obtain ⟨F, rb, ⟨⟩⟩ := a
  replace hq : ∀ S1 r y, Grow S S1 → Rp.rep S1.G r y → y = F.orderOf rb → Q r S1.H := hq
  have nd := sc_Fleet_order_of.nd
  show SB _ _ _ [some ⟨F⟩, some ⟨rb⟩, none, none] S
  refine s_search (fun q : Int × Odr => !q.2.done && decide (q.2.robot = some rb)) PassesOwn.never rfl (it_enum b_enumerate (eFlt_orders (er_var 0))) (bg_pair rfl (bg_name 2 nd) (bg_name 3 nd)) (fun x => .keep (.keep (.drop (.drop .nil)))) (fun x hx S2 g2 => ?_) (fun x hx hf S2 g2 D' hD => ?_) (fun hf S2 g2 => ?_)
  · exact tr_and (p2 := default) (tr_not (tr_bool (eOdr_done (er_var 3)))) fun _ => tr_cmp (cv_eqO (eOdr_robot (er_var 3)) (er_var 1))
  · exact s_ret (er_some (er_var 2)) fun S3 v g3 r => by rw [hD]; exact hq S3 v _ (g2.trans g3) r (find_map hf).symm
  · exact s_ret (x := (none : Option Int)) er_non fun S3 v g3 r => hq S3 v _ (g2.trans g3) r (by unfold Flt.orderOf; rw [hf]; rfl)
theorem cal_first_open : MCal "Fleet" "first_open" 1 (Spf (fun a : Flt × Unit => True) fun a => a.1.firstOpen) := by
  refine mkMCal (d := d_Fleet_first_open) i_Fleet_first_open sc_Fleet_first_open m_Fleet_first_open c_Fleet (fun f cdv A outer s S a Q E hp hX hq => ?_) (hb := fun _ _ _ _ _ _ us hl => match us, hl with | [_], _ => rfl)
  obtain ⟨F, ⟨⟩⟩ := a
  replace hq : ∀ S1 r y, Grow S S1 → Rp.rep S1.G r y → y = F.firstOpen → Q r S1.H := hq
  have nd := sc_Fleet_first_open.nd
  show SB _ _ _ [some ⟨F⟩, none, none] S
  refine s_search (fun q : Int × Odr => !q.2.done) PassesOwn.never rfl (it_enum b_enumerate (eFlt_orders (er_var 0))) (bg_pair rfl (bg_name 1 nd) (bg_name 2 nd)) (fun x => .keep (.drop (.drop .nil))) (fun x hx S2 g2 => ?_) (fun x hx hf S2 g2 D' hD => ?_) (fun hf S2 g2 => ?_)
  · exact tr_not (tr_bool (eOdr_done (er_var 2)))
  · exact s_ret (er_var 1) fun S3 v g3 r => by rw [hD]; exact hq S3 v _ (g2.trans g3) r (by unfold Flt.firstOpen; rw [hf]; rfl)
  · exact s_ret (er_len b_len (eFlt_orders (er_var 0))) fun S3 v g3 r => hq S3 v _ (g2.trans g3) r (by unfold Flt.firstOpen; rw [hf]; rfl)
theorem cal_aim : MCal "Fleet" "aim" 1 (Spf (fun a : Flt × Int × Unit => a.1.Ok ∧ 0 ≤ a.2.1 ∧ a.2.1 < a.1.orders.length) fun a => a.1.aim a.2.1) := by
  refine mkMCal (d := d_Fleet_aim) i_Fleet_aim sc_Fleet_aim m_Fleet_aim c_Fleet (fun f cdv A outer s S a Q E hp hX hq => ?_) (hb := fun _ _ _ _ _ _ us hl => match us, hl with | [_, _], _ => rfl)
  obtain ⟨F, n, ⟨⟩⟩ := a
  obtain ⟨ok, h0, h1⟩ : F.Ok ∧ 0 ≤ n ∧ n < F.orders.length := hp
  replace hq : ∀ S1 r y, Grow S S1 → Rp.rep S1.G r y → y = F.aim n → Q r S1.H := hq
  have nd := sc_Fleet_aim.nd
  have oo := ok.odrI h0 h1
  show SB _ _ _ [some ⟨F⟩, some ⟨n⟩, none] S
  refine s_set (x := F.odr n) 2 nd (er_ix (eFlt_orders (er_var 0)) (er_var 1) h0 (Flt.odr_at h0 h1)) fun S1 g1 => ?_
  refine s_if (tr_bool (eOdr_loaded (er_var 2))) (fun t S2 g2 => ?_) (fun t S2 g2 => s_end ?_)
  · exact s_ret (er_list b_list (er_ix (eFlo_stations (eFlt_floor (er_var 0))) (eOdr_goal (er_var 2)) oo.g0 (Flo.st_at oo.g0 oo.g1))) fun S3 v g3 r => hq S3 v _ ((g1.trans g2).trans g3) r (by unfold Flt.aim; rw [if_pos t])
  · exact s_ret (er_list b_list (er_ix (eFlo_stations (eFlt_floor (er_var 0))) (eOdr_start (er_var 2)) oo.s0 (Flo.st_at oo.s0 oo.s1))) fun S3 v g3 r => hq S3 v _ ((g1.trans g2).trans g3) r (by unfold Flt.aim; rw [t]; rfl)
theorem cal_is_free : MCal "Fleet" "is_free" 2 (Spf (fun a : Flt × Int × Unit => 0 ≤ a.2.1 ∧ a.2.1 < a.1.robots.length) fun a => a.1.isFree a.2.1) := by
  refine mkMCal (d := d_Fleet_is_free) i_Fleet_is_free sc_Fleet_is_free m_Fleet_is_free c_Fleet (fun f cdv A outer s S a Q E hp hX hq => ?_) (hb := fun _ _ _ _ _ _ us hl => match us, hl with | [_, _], _ => rfl)
  obtain ⟨F, n, ⟨⟩⟩ := a
  obtain ⟨h0, h1⟩ : 0 ≤ n ∧ n < F.robots.length := hp
  replace hq : ∀ S1 r y, Grow S S1 → Rp.rep S1.G r y → y = F.isFree n → Q r S1.H := hq
  show SB _ _ _ [some ⟨F⟩, some ⟨n⟩] S
  exact s_ret (er_andB (er_notB (eRob_broken (er_ix (eFlt_robots (er_var 0)) (er_var 1) h0 (Flt.rob_at h0 h1)))) fun _ => er_cmp (cv_isN (EV.er (ev_meth cal_order_of (fun _ _ h => h) (lFlt_order_of_no F) (er_var 0) (ar_cons (er_var 1) ar_nil) trivial)))) fun S3 v g3 r => hq S3 v _ g3 r rfl
end
end Fl

set_option Elab.async false
set_option linter.all false
set_option maxRecDepth 100000
set_option maxHeartbeats 4000000
namespace Fl
open PySem PySem.Spec PyProof.Rows L2
/-! ### values as deep data -/
class Dq (α : Type) [Rp α] where
  d : α → PyData
  n : Nat
  dp : ∀ {K : PySem.W.Frag} {H : Hp} {v : V} {x : α}, Rp.rep H v x → Dp K H v (d x)
  lay : ∀ x, (d x).canLay0 = true
  dep : ∀ x, (d x).depth ≤ n
/-- equality of the data is equality -/
class DqE (α : Type) [Rp α] [Dq α] : Prop where
  eq : ∀ x y : α, PyData.eqv (Dq.d x) (Dq.d y) = true ↔ x = y
instance : Dq Int := ⟨.int, 0, fun h => by cases (show _ = V.int _ from h); exact .int _, fun _ => rfl, fun _ => Nat.le_refl _⟩
instance : Dq Bool := ⟨.bool, 0, fun h => by cases (show _ = V.bl _ from h); exact .bl _, fun _ => rfl, fun _ => Nat.le_refl _⟩
instance : DqE Int := ⟨fun x y => by show PyData.eqv (.int x) (.int y) = true ↔ _; simp [PyData.eqv]⟩
instance : DqE Bool := ⟨fun x y => by show PyData.eqv (.bool x) (.bool y) = true ↔ _; simp [PyData.eqv]⟩
instance {α : Type} [Rp α] [Dq α] : Dq (Option α) := ⟨fun o => match o with
  | none => .none
  | some x => Dq.d x, Dq.n α, fun {K H v x} h => by
    cases x with
    | none =>
      cases (show v = V.non from h)
      exact .non
    | some x => exact Dq.dp h.2, fun x => by cases x; exact rfl; exact Dq.lay _, fun x => by cases x; exact Nat.zero_le _; exact Dq.dep _⟩
theorem dpAll_of {α : Type} [Rp α] [Dq α] {K : PySem.W.Frag} {H : Hp} : ∀ {vs : List V} {xs : List α}, reps H vs xs → DpAll K H vs (xs.map Dq.d)
  | _, _, .nil => .nil
  | _, _, .cons a r => .cons (Dq.dp a) (dpAll_of r)
theorem layAll_of {α : Type} [Rp α] [Dq α] : ∀ xs : List α, PyData.canLayAll0 (xs.map Dq.d) = true
  | [] => rfl
  | x :: xs => by
    show (PyData.canLay0 (Dq.d x) && PyData.canLayAll0 (xs.map Dq.d)) = true
    rw [Dq.lay, layAll_of xs]
    rfl
theorem depAll_of {α : Type} [Rp α] [Dq α] : ∀ xs : List α, PyData.depthAll (xs.map Dq.d) ≤ Dq.n α
  | [] => Nat.zero_le _
  | x :: xs => by
    show max (PyData.depth (Dq.d x)) (PyData.depthAll (xs.map Dq.d)) ≤ _
    have h1 := Dq.dep x
    have h2 := depAll_of xs
    omega
instance {α : Type} [Rp α] [Dq α] : Dq (List α) := ⟨fun xs => .list (xs.map Dq.d), Dq.n α + 1, fun {K H v x} ⟨a, vs, e, h, r⟩ => by
  subst e
  exact .lst (SqL.of h) (dpAll_of r), fun xs => layAll_of xs, fun xs => Nat.succ_le_succ (depAll_of xs)⟩
instance {α : Type} [Rp α] [Dq α] : Dq (Tpl α) := ⟨fun xs => .tuple (xs.l.map Dq.d), Dq.n α + 1, fun {K H v x} ⟨a, vs, e, h, r⟩ => by
  subst e
  exact .tup (SqT.of h) (dpAll_of r), fun xs => layAll_of xs.l, fun xs => Nat.succ_le_succ (depAll_of xs.l)⟩
instance {α β : Type} [Rp α] [Rp β] [Dq α] [Dq β] : Dq (α × β) := ⟨fun x => .tuple [Dq.d x.1, Dq.d x.2], max (Dq.n α) (Dq.n β) + 1, fun {K H v x} ⟨a, u, w, e, h, r1, r2⟩ => by
  subst e
  exact .tup (SqT.of h) (.cons (Dq.dp r1) (.cons (Dq.dp r2) .nil)), fun x => by
    show (PyData.canLay0 (Dq.d x.1) && (PyData.canLay0 (Dq.d x.2) && true)) = true
    rw [Dq.lay, Dq.lay]
    rfl, fun x => by
    show max (PyData.depth (Dq.d x.1)) (max (PyData.depth (Dq.d x.2)) 0) + 1 ≤ _
    have h1 := Dq.dep x.1
    have h2 := Dq.dep x.2
    omega⟩
instance {α β : Type} [Rp α] [Rp β] [Dq α] [Dq β] [DqE α] [DqE β] : DqE (α × β) := ⟨fun x y => by
  show (PyData.eqv (Dq.d x.1) (Dq.d y.1) && (PyData.eqv (Dq.d x.2) (Dq.d y.2) && true)) = true ↔ _
  rw [Bool.and_true, Bool.and_eq_true, DqE.eq, DqE.eq, Prod.ext_iff]⟩
theorem shaped_of {α : Type} [Rp α] [Dq α] (hn : Dq.n α ≤ 64) (x : α) : SeqAt.shaped (Dq.d x) = true := by
  unfold SeqAt.shaped
  rw [Dq.lay, Bool.true_and]
  exact decide_eq_true (Nat.le_trans (Dq.dep x) hn)
section
variable {α : Type} [Rp α] [Dq α] [DqE α]
theorem any_mem [DecidableEq α] (x : α) : ∀ xs : List α, ((xs.map Dq.d).any fun z => PyData.eqv z (Dq.d x)) = decide (x ∈ xs) := fun xs => by
  rw [Bool.eq_iff_iff, List.any_eq_true, decide_eq_true_iff]
  constructor
  · rintro ⟨z, hz, e⟩
    obtain ⟨y, hy, rfl⟩ := List.mem_map.mp hz
    rw [(DqE.eq y x).mp e] at hy
    exact hy
  · intro h
    exact ⟨Dq.d x, List.mem_map.mpr ⟨x, h, rfl⟩, (DqE.eq x x).mpr rfl⟩
/-- where the first x stands -/
theorem firstq [DecidableEq α] : ∀ {xs : List α} {x : α}, x ∈ xs → ∃ j, xs[j]? = some x ∧ (∀ i, i < j → xs[i]? ≠ some x) ∧ xs.eraseIdx j = xs.erase x
  | [], _, h => by cases h
  | a :: r, x, h => by
    by_cases e : a = x
    · exact ⟨0, by rw [e]; rfl, fun i hi => absurd hi (Nat.not_lt_zero _), by rw [e, List.erase_cons_head]; rfl⟩
    · have hr : x ∈ r := (List.mem_cons.mp h).resolve_left (fun z => e z.symm)
      obtain ⟨j, h2, h3, h4⟩ := firstq hr
      refine ⟨j + 1, h2, fun i hi => ?_, ?_⟩
      · cases i with
        | zero => exact fun z => e (Option.some.inj z)
        | succ i => exact h3 i (Nat.lt_of_succ_lt_succ hi)
      · rw [List.erase_cons_tail (by rw [beq_iff_eq]; exact e), ← h4]
        rfl
end
theorem reps.erase {α : Type} [Rp α] {H : Hp} : ∀ {vs : List V} {xs : List α} (i : Nat), reps H vs xs → reps H (vs.eraseIdx i) (xs.eraseIdx i)
  | _, _, _, .nil => .nil
  | _, _, 0, .cons _ t => t
  | _, _, i + 1, .cons r t => .cons r (reps.erase i t)
/-! ### list.remove -/
def rRemD (K : PySem.W.Frag) : V → List V → Hp → VK → Prop := fun x vs H Q => ∃ (l : Addr) (ws : List V) (y : V) (ds : List PyData) (d : PyData) (j : Nat) (z : PyData), x = .ref l ∧ vs = [y] ∧ H l = some (.lst ws) ∧ DpAll K H ws ds ∧ Dp K H y d ∧
  SeqAt.shaped (.list ds) = true ∧ SeqAt.shaped d = true ∧ ds[j]? = some z ∧ PyData.eqv z d = true ∧ (∀ (m : Nat) (z' : PyData), m < j → ds[m]? = some z' → PyData.eqv z' d = false) ∧ Q .non (upd H l (.lst (ws.eraseIdx j)))
theorem mt_remD {X : Cx} (hu : X.A.units + 65 < cLine) : MtM X "list.remove" (rRemD X.K) := by
  intro pins s σ H x vs v us Q I rx rv h
  obtain ⟨l, ws, y, ds, d, j, z, rfl, rfl, hH, ha, hy, sl, sd, hz, hzj, hno, q⟩ := h
  cases rx
  obtain ⟨u, rfl, ru⟩ := rv.one
  obtain ⟨bs, r1⟩ := Dp.reads I d y u hy ru
  have hxs : PyData.canLayAll0 ds = true := SeqAt.canLay_of_shaped sl
  have hroom : X.A.units + 1 + min (PyData.depthAll ds) d.depth < cLine := room_in_shaped sd hu
  obtain ⟨z0, its, n, r, hl, e⟩ := I.lstM hH
  obtain ⟨as, h4⟩ := Dp.readsAll I ds ws its ha r
  have hn : its.length = ds.length := SeqAt.ReadsAll.length ds its as h4
  have hmap : its.map (SeqAt.readOf s.heap) = ds := SeqAt.readsAll_map ds its as hxs h4
  obtain ⟨hjd, _⟩ := List.getElem?_eq_some_iff.mp hz
  have hjl : j < its.length := by omega
  have hj : j < its.toArray.size := by simpa using hjl
  have at_ : ∀ (m : Nat) (hm : m < its.toArray.size) (z' : PyData), ds[m]? = some z' → SeqAt.readOf s.heap its.toArray[m] = z' := by
    intro m hm z' hz'
    have hml : m < its.length := by simpa using hm
    rw [← hmap, List.getElem?_map, List.getElem?_eq_getElem hml] at hz'
    have e1 : SeqAt.readOf s.heap its[m] = z' := Option.some.inj (show some (SeqAt.readOf s.heap its[m]) = some z' from hz')
    simpa using e1
  refine call_meets PySem.F.slot_list_remove ⟨_, e, rfl⟩ PySem.F.entry_list_remove (PySem.F.args_list_remove_2 _ _)
    (SeqAt.list_removeAt l its.toArray n none #[] u (fun u => PyData.eqv (SeqAt.readOf s.heap u) d) j hj ?_ ?_ (by rw [List.size_toArray, ← hl]; exact z0)) ⟨e, SeqAt.items_eqAt (vs := its.toArray) (show ReadsAll s.heap its.toArray.toList ds as from h4) r1 hxs (SeqAt.canLay_of_shaped sd) hroom, ?_⟩
  · show PyData.eqv (SeqAt.readOf s.heap its.toArray[j]) d = true
    rw [at_ j hj z hz]
    exact hzj
  · intro m hm hmj
    have hmd : m < ds.length := by omega
    have hz' : ds[m]? = some ds[m] := List.getElem?_eq_getElem hmd
    show PyData.eqv (SeqAt.readOf s.heap its.toArray[m]) d = false
    rw [at_ m hm _ hz']
    exact hno m _ hmj hz'
  · refine ⟨.non, _, I.lset (its' := its.eraseIdx j) hH e ?_ (r.eraseIdx j) ?_, rfl, q⟩
    · show its.toArray.eraseIdxIfInBounds j = (its.eraseIdx j).toArray
      rw [List.eraseIdxIfInBounds_toArray]
    · exact Nat.le_trans (List.length_eraseIdx_le ..) z0
section
variable [c : Ctx] {α : Type} [Rp α] [Dq α] [DqE α] [DecidableEq α] {X : Cx} {e a b : Expr} {Γ : Gm} {S : HS} {x : α} {pos : Pos}
/-- p.remove(e), of what is there -/
theorem s_rem {k0 : Nat} [hX : InC k0 X] {p : Addr} {xs : List α} {apos pos' : Pos} {D : Ends} {rest : List Stmt} (hm : ML S p xs) (ha : ER X a Γ S (⟨p⟩ : Adr)) (he : ER X e Γ S x) (hx : x ∈ xs) (hn : Dq.n α ≤ 60) (hu : X.A.units + 65 < cLine)
    (k : ∀ S2 : HS, Upd S p S2 → ML S2 p (xs.erase x) → SB X rest D Γ S2)
    (hs : swapsWith (.Call (.Attribute a "remove" apos) [e] [] pos) none pos'.line X.env = pure false := by rfl)
    (hbase : attributeBase a "remove" X.env (eval a X.env) = eval a X.env := by rfl)
    (hfew : ((backTo pos (starEach [e] X.env)).all (fun x => !x.1) && (backToKw pos (keywordEach [] X.env)).all (fun x => x.1.isSome) && decide (([e] : List Expr).length + ([] : List Keyword).length + (if ([] : List Keyword).isEmpty then 0 else 1) < 30)) = true := by rfl)
    (hline : (apos.endLine == pos.line) = true := by rfl) (hst : starEach [e] X.env = [(false, eval e X.env)] := by rfl) : SB X (.Expr (.Call (.Attribute a "remove" apos) [e] [] pos) pos' :: rest) D Γ S := fun σ hσ => by
  refine w_cons (w_ps (ps_expr (pe_bm PySem.F.plainAttrs_list PySem.F.slot_list_remove PySem.F.type_list_remove (mt_remD hu) pe_w (pa_cons pe_w pa_nil hst) hbase hfew hline hst) hs) (ha σ hσ S (.refl _) _ fun S1 u g1 ru => ?_))
  obtain ⟨_, vs, h2, r⟩ := hm.up g1
  cases (show u = V.ref p from ru)
  refine ⟨.inl ⟨rfl, vs, SqL.of h2⟩, he σ hσ S1 g1 _ fun S2 w g2 rw' => ?_⟩
  obtain ⟨n3, vs3, h3, r3⟩ := hm.up (g1.trans g2)
  obtain ⟨j, j1, j2, j3⟩ := firstq hx
  have r3' : reps S2.H vs3 xs := r3.mono S2.le
  refine ⟨p, vs3, w, xs.map Dq.d, Dq.d x, j, Dq.d x, rfl, rfl, h3, dpAll_of r3', Dq.dp (Rp.mono S2.le rw'), ?_, shaped_of (by omega) x, by rw [List.getElem?_map, j1]; rfl, (DqE.eq x x).mpr rfl, fun m z' hm hz => ?_, ?_⟩
  · unfold SeqAt.shaped
    have h1 := layAll_of xs
    have h2 := depAll_of xs
    rw [show PyData.canLay0 (.list (xs.map Dq.d)) = true from h1, Bool.true_and]
    exact decide_eq_true (show PyData.depthAll (xs.map Dq.d) + 1 ≤ 64 by omega)
  · rw [List.getElem?_map] at hz
    cases ey : xs[m]? with
    | none =>
      rw [ey] at hz
      cases hz
    | some y =>
      rw [ey] at hz
      cases hz
      rw [Bool.eq_false_iff]
      intro t
      exact j2 m hm (by rw [ey, (DqE.eq y x).mp t])
  · refine k (S2.add p (.lst (vs3.eraseIdx j)) n3) ((Upd.add n3).after (g1.trans g2)) ⟨n3, vs3.eraseIdx j, upd_same, ?_⟩ σ (hσ.mono (g1.trans g2).g)
    rw [← j3]
    exact r3.erase j
/-- e in xs -/
def memD {α : Type} [DecidableEq α] (x : α) (xs : List α) : Bool := decide (x ∈ xs)
theorem memD_iff {α : Type} [DecidableEq α] {x : α} {xs : List α} : memD x xs = true ↔ x ∈ xs := decide_eq_true_iff
theorem cv_inD2 {xs : List α} (hu : X.A.units + 65 < cLine) (hn : Dq.n α ≤ 60) (ha : ER X a Γ S x) (hb : ER X b Γ S xs) : CV X .In a b Γ S (memD x xs) := cv_of (op_inD hu) ha hb fun S2 u w Q ru rb k =>
  ⟨Dq.d x, xs.map Dq.d, Dq.dp (Rp.mono S2.le ru), (Dq.dp (Rp.mono S2.le rb) : Dp X.K S2.H w (Dq.d xs)), shaped_of (by omega) x, shaped_of (show Dq.n α + 1 ≤ 64 by omega) xs, by rw [any_mem]; exact k⟩
theorem cv_niD2 {xs : List α} (hu : X.A.units + 65 < cLine) (hn : Dq.n α ≤ 60) (ha : ER X a Γ S x) (hb : ER X b Γ S xs) : CV X .NotIn a b Γ S (!memD x xs) := cv_of (op_notInD hu) ha hb fun S2 u w Q ru rb k =>
  ⟨Dq.d x, xs.map Dq.d, Dq.dp (Rp.mono S2.le ru), (Dq.dp (Rp.mono S2.le rb) : Dp X.K S2.H w (Dq.d xs)), shaped_of (by omega) x, shaped_of (show Dq.n α + 1 ≤ 64 by omega) xs, by rw [any_mem]; exact k⟩
end
end Fl

set_option Elab.async false
set_option linter.all false
set_option maxRecDepth 100000
set_option maxHeartbeats 4000000
namespace Fl
open PySem PySem.Spec PyProof.Rows L2
theorem u65 [Ctx] {k : Nat} {X : Cx} (hX : InC k X) : X.A.units + 65 < cLine := by have := hX.room.un; omega
abbrev Lk := Int × Int
abbrev Sp2 := Int × Bool
def pairsOf (w : List Int) : List Lk := w.zip w.tail
def linksOf (ws : List (List Int)) : List Lk := (ws.map pairsOf).flatten
theorem pairsOf_get {w : List Int} {i : Nat} {x y : Int} (h1 : w[i]? = some x) (h2 : w[i + 1]? = some y) : (pairsOf w)[i]? = some (x, y) := by
  unfold pairsOf
  rw [List.getElem?_zip_eq_some]
  exact ⟨h1, by rw [List.getElem?_tail]; exact h2⟩
theorem pairsOf_len (w : List Int) : (pairsOf w).length = w.length - 1 := by
  unfold pairsOf
  rw [List.length_zip, List.length_tail]
  omega
theorem linksOf_len : ∀ ws : List (List Int), (linksOf ws).length ≤ ws.flatten.length
  | [] => Nat.le_refl _
  | w :: ws => by
    have h := linksOf_len ws
    unfold linksOf at h ⊢
    rw [List.map_cons, List.flatten_cons, List.flatten_cons, List.length_append, List.length_append, pairsOf_len]
    omega
theorem rangeI_at {n : Nat} {pre r : List Int} {x : Int} (h : rangeI 0 n = pre ++ x :: r) : x = ((n - (r.length + 1) : Nat) : Int) ∧ r.length < n := by
  have hl := congrArg List.length h
  rw [rangeI_len, List.length_append, List.length_cons] at hl
  have e : (rangeI 0 n)[pre.length]? = some x := by
    rw [h, List.getElem?_append_right (Nat.le_refl _), Nat.sub_self]
    rfl
  rw [rangeI_get (by omega)] at e
  have := Option.some.inj e
  omega
def eraseD {α : Type} [DecidableEq α] (k : List α) (x : α) : List α := k.erase x
theorem eraseD_len {α : Type} [DecidableEq α] (k : List α) (x : α) : (eraseD k x).length ≤ k.length := List.length_erase_le ..
def chStep (k : List Lk) (s t : Sp2) : List Lk := if s.1 = t.1 then k else if s.2 then k ++ [(s.1, t.1)] else eraseD k (t.1, s.1)
def chGo : List Lk → List Sp2 → List Lk
  | k, s :: t :: r => chGo (chStep k s t) (t :: r)
  | k, _ => k
/-- what is taken out is there -/
def chOk : List Lk → List Sp2 → Prop
  | k, s :: t :: r => (s.1 = t.1 ∨ s.2 = true ∨ (t.1, s.1) ∈ k) ∧ chOk (chStep k s t) (t :: r)
  | _, _ => True
theorem chStep_len (k : List Lk) (s t : Sp2) : (chStep k s t).length ≤ k.length + 1 := by
  unfold chStep
  split
  · omega
  · split
    · rw [List.length_append]
      exact Nat.le_refl _
    · have := eraseD_len k (t.1, s.1)
      omega
/-- the table of a follow -/
def tblGo : (Int → Option Int) → List Lk → Int → Option Int
  | f, [] => f
  | f, l :: r => tblGo (fun j => if j = l.1 then some l.2 else f j) r
def tblOf (L : List Lk) : Int → Option Int := tblGo (fun _ => none) L
def folGo (f : Int → Option Int) : Nat → List Int → Int → List Int
  | 0, w, _ => w
  | n + 1, w, x => match f x with
    | none => w
    | some y => folGo f n (w ++ [y]) y
def follow (L : List Lk) (x : Int) : List Int := folGo (tblOf L) L.length [x] x
def newWays (ws : List (List Int)) (path : List Sp2) : List (List Int) :=
  (ws.map (fun w => w.headD 0) ++ [(path.headD (0, false)).1]).map (follow (chGo (linksOf ws) path))
section
variable [c : Ctx]
theorem cal_links_of : Cal "links_of" 1 (Spf (fun a : List (List Int) × Unit => a.1.flatten.length ≤ 1000) fun a => linksOf a.1) := by
  refine mkCal (d := d_links_of) i_links_of sc_links_of g_links_of (fun f cdv A outer s S a Q E hp hX hq => ?_) (hb := fun _ _ _ _ _ _ us hl => match us, hl with | [_], _ => rfl)
  obtain ⟨ws, ⟨⟩⟩ := a
  have few : ws.flatten.length ≤ 1000 := hp
  replace hq : ∀ S1 r y, Grow S S1 → Rp.rep S1.G r y → y = linksOf ws → Q r S1.H := hq
  have nd := sc_links_of.nd
  show SB _ _ _ [some ⟨ws⟩, none, none, none] S
  refine s_setN (α := Lk) 1 nd en_lst0 fun S1 p g1 p0 m1 => ?_
  refine s_for PassesOwn.never rfl (it_list (er_var 0)) (bg_name 2 nd) fun S2 g2 => ?_
  refine ⟨fun r Γ' S' => ∃ pre, Γ' = [some ⟨ws⟩, some ⟨(⟨p⟩ : Adr)⟩, none, none] ∧ ws = pre ++ r ∧ Grow S S' ∧ Same S2.G S'.G ∧ ML S' p (linksOf pre), ⟨[], rfl, rfl, g1.trans g2, Same.refl _, m1.up g2⟩, fun r Γ' S' ⟨_, _, _, _, h, _⟩ => h, ?_, ?_⟩
  · rintro pre0 w r Γ' S' hx ⟨pre, rfl, hpre, gS, s2, m⟩ S3 g3
    have hlen : (linksOf pre).length + w.length ≤ 1000 := by
      have q := linksOf_len pre
      rw [hpre, List.flatten_append, List.length_append, List.flatten_cons, List.length_append] at few
      omega
    refine s_for (α := Int) PassesOwn.never rfl (it_range b_range (er_sub (er_len b_len (er_var 2)) er_int) (by omega)) (bg_name 3 nd) fun S4 g4 => ?_
    refine ⟨fun r Γ' S' => Γ' = [some ⟨ws⟩, some ⟨(⟨p⟩ : Adr)⟩, some ⟨w⟩, none] ∧ Grow S S' ∧ Same S4.G S'.G ∧ ML S' p (linksOf pre ++ (pairsOf w).take ((w.length : Int) - 1).toNat |>.take ((linksOf pre).length + (((w.length : Int) - 1).toNat - r.length))), ⟨rfl, (gS.trans g3).trans g4, Same.refl _, ?_⟩, fun r Γ' S' ⟨_, _, h, _⟩ => h, ?_, ?_⟩
    · rw [rangeI_len, Nat.sub_self, Nat.add_zero, List.take_append_of_le_length (Nat.le_refl _), List.take_length]
      exact (m.up g3).up g4
    · rintro pre1 i r1 Γ' S' hi ⟨rfl, gS2, s4, m4⟩ S5 g5
      obtain ⟨ei, hlt⟩ := rangeI_at hi
      obtain ⟨j, hj⟩ : ∃ j : Nat, j = ((w.length : Int) - 1).toNat - (r1.length + 1) := ⟨_, rfl⟩
      have e0 : i = (j : Int) := by rw [hj]; exact ei
      have hjw : j + 1 < w.length := by omega
      have hp1 : w[j]? = some w[j] := List.getElem?_eq_getElem (by omega)
      have hp2 : w[j + 1]? = some w[j + 1] := List.getElem?_eq_getElem hjw
      have hpp := pairsOf_get hp1 hp2
      have hpl := pairsOf_len w
      have full : (pairsOf w).take ((w.length : Int) - 1).toNat = pairsOf w := List.take_of_length_le (by omega)
      rw [full, List.length_cons, ← hj] at m4
      rw [full]
      refine s_app (m4.up g5) (er_var 1) (er_pair (er_ix (er_var 2) (er_var 3) (by omega) (by rw [e0, Int.toNat_natCast]; exact hp1)) (er_ix (er_var 2) (er_add (er_var 3) er_int) (by omega) (by rw [e0]; show w[((j : Int) + 1).toNat]? = _; rw [show ((j : Int) + 1).toNat = j + 1 by omega]; exact hp2))) (by
        rw [List.length_take, List.length_append]; omega) fun S6 u6 m6 => s_next (.keep (.keep (.keep (.drop .nil)))) ⟨rfl, (gS2.trans g5).upd p0 u6, (s4.trans g5.g).trans u6.g, ?_⟩
      have e1 : ((w.length : Int) - 1).toNat - r1.length = j + 1 := by omega
      rw [e1, show (linksOf pre).length + (j + 1) = ((linksOf pre).length + j) + 1 by omega, List.take_add_one]
      rw [List.getElem?_append_right (by omega), show (linksOf pre).length + j - (linksOf pre).length = j by omega, hpp]
      exact m6
    · rintro Γ' S' ⟨rfl, gS2, s4, m4⟩
      have full : (pairsOf w).take ((w.length : Int) - 1).toNat = pairsOf w := List.take_of_length_le (by have := pairsOf_len w; omega)
      refine s_next (.keep (.keep (.drop (.drop .nil)))) ⟨pre ++ [w], rfl, by rw [hpre, List.append_assoc]; rfl, gS2, (s2.trans (g3.trans g4).g).trans s4, ?_⟩
      rw [full, List.length_nil, Nat.sub_zero, List.take_of_length_le (by rw [List.length_append, pairsOf_len]; omega)] at m4
      unfold linksOf at m4 ⊢
      rw [List.map_append, List.flatten_append]
      have e : ([w].map pairsOf).flatten = pairsOf w := by simp
      rw [e]
      exact m4
  · rintro Γ' S' ⟨pre, rfl, hpre, gS, _, m⟩
    rw [List.append_nil] at hpre
    subst hpre
    refine SB.fixM 1 gS p0 m fun S5 e5 g5 _ _ => ?_
    exact s_ret (er_var 1) fun S6 v g6 r => hq S6 v _ (g5.trans g6) r rfl
theorem pick_get {path : List Sp2} {i : Nat} (h : i < path.length) : path[i]? = some path[i] := List.getElem?_eq_getElem h
def preCh (a : List Lk × List Sp2 × Unit) : Prop := a.1.length ≤ 1000 ∧ a.2.1.length ≤ 1000 ∧ chOk a.1 a.2.1
theorem cal_changed_links : Cal "changed_links" 1 (Spf preCh fun a => chGo a.1 a.2.1) := by
  refine mkCal (d := d_changed_links) i_changed_links sc_changed_links g_changed_links (fun f cdv A outer s S a Q E hp hX hq => ?_) (hb := fun _ _ _ _ _ _ us hl => match us, hl with | [_, _], _ => rfl)
  obtain ⟨L, path, ⟨⟩⟩ := a
  obtain ⟨few1, few2, ok⟩ : L.length ≤ 1000 ∧ path.length ≤ 1000 ∧ chOk L path := hp
  replace hq : ∀ S1 r y, Grow S S1 → Rp.rep S1.G r y → y = chGo L path → Q r S1.H := hq
  have nd := sc_changed_links.nd
  show SB _ _ _ [some ⟨L⟩, some ⟨path⟩, none, none, none, none, none, none] S
  refine s_setN 2 nd (en_list b_list (er_var 0)) fun S1 p g1 p0 m1 => ?_
  refine s_for (α := Int) PassesOwn.never rfl (it_range b_range (er_sub (er_len b_len (er_var 1)) er_int) (by omega)) (bg_name 3 nd) fun S2 g2 => ?_
  refine ⟨fun r Γ' S' => ∃ k : List Lk, Γ' = [some ⟨L⟩, some ⟨path⟩, some ⟨(⟨p⟩ : Adr)⟩, none, none, none, none, none] ∧ Grow S S' ∧ Same S2.G S'.G ∧ ML S' p k ∧ k.length + r.length ≤ 2000 ∧
    chOk k (path.drop (((path.length : Int) - 1).toNat - r.length)) ∧ chGo k (path.drop (((path.length : Int) - 1).toNat - r.length)) = chGo L path, ⟨L, rfl, g1.trans g2, Same.refl _, m1.up g2, by rw [rangeI_len]; omega, by rw [rangeI_len, Nat.sub_self]; exact ok, by rw [rangeI_len, Nat.sub_self]; rfl⟩, fun r Γ' S' ⟨_, _, _, h, _⟩ => h, ?_, ?_⟩
  · rintro pre1 i r1 Γ' S' hi ⟨k, rfl, gS, s2, m, few, okk, hf⟩ S3 g3
    obtain ⟨ei, hlt⟩ := rangeI_at hi
    obtain ⟨j, hj⟩ : ∃ j : Nat, j = ((path.length : Int) - 1).toNat - (r1.length + 1) := ⟨_, rfl⟩
    have e0 : i = (j : Int) := by rw [hj]; exact ei
    have hjw : j + 1 < path.length := by omega
    obtain ⟨s, hp1⟩ : ∃ s, path[j]? = some s := ⟨_, pick_get (by omega)⟩
    obtain ⟨t, hp2⟩ : ∃ s, path[j + 1]? = some s := ⟨_, pick_get hjw⟩
    have ed : path.drop j = s :: t :: path.drop (j + 1 + 1) := by
      rw [List.drop_eq_getElem_cons (by omega), List.drop_eq_getElem_cons hjw]
      rw [pick_get (by omega)] at hp1
      rw [pick_get hjw] at hp2
      rw [Option.some.inj hp1, Option.some.inj hp2]
    have ed1 : path.drop (j + 1) = t :: path.drop (j + 1 + 1) := by
      rw [List.drop_eq_getElem_cons hjw]
      rw [pick_get hjw] at hp2
      rw [Option.some.inj hp2]
    have e1 : ((path.length : Int) - 1).toNat - r1.length = j + 1 := by omega
    rw [List.length_cons, ← hj, ed] at okk hf
    obtain ⟨o1, o2⟩ : (s.1 = t.1 ∨ s.2 = true ∨ (t.1, s.1) ∈ k) ∧ chOk (chStep k s t) (t :: path.drop (j + 1 + 1)) := okk
    have hf2 : chGo (chStep k s t) (t :: path.drop (j + 1 + 1)) = chGo L path := hf
    rw [← ed1] at o2 hf2
    have lenS := chStep_len k s t
    rw [List.length_cons] at few
    -- cell, outward = path[index]
    refine s_asg (x := s) (er_ix (er_var 1) (er_var 3) (by omega) (by rw [e0, Int.toNat_natCast]; exact hp1)) (bg_pair rfl (bg_name 4 nd) (bg_name 5 nd)) fun S4 g4 => ?_
    refine s_asg (x := t) (er_ix (er_var 1) (er_add (er_var 3) er_int) (by omega) (by rw [e0, show ((j : Int) + 1).toNat = j + 1 by omega]; exact hp2)) (bg_pair rfl (bg_name 6 nd) (bg_name 7 nd)) fun S5 g5 => ?_
    have g35 := (g3.trans g4).trans g5
    refine s_if (tr_cmp (cv_eqI (er_var 4) (er_var 6))) (fun ht S6 g6 => ?_) (fun ht S6 g6 => s_end ?_)
    · have e : chStep k s t = k := by unfold chStep; rw [if_pos (of_decide_eq_true ht)]
      rw [e] at o2 hf2 lenS
      refine s_cont (.keep (.keep (.keep (.drop (.drop (.drop (.drop (.drop .nil)))))))) ⟨k, rfl, (gS.trans g35).trans g6, s2.trans (g35.trans g6).g, m.up (g35.trans g6), by omega, by rw [e1]; exact o2, by rw [e1]; exact hf2⟩
    · have hne : ¬ s.1 = t.1 := of_decide_eq_false ht
      refine s_if (tr_bool (er_var 5)) (fun ht S7 g7 => ?_) (fun ht S7 g7 => ?_)
      · have e : chStep k s t = k ++ [(s.1, t.1)] := by unfold chStep; rw [if_neg hne, if_pos ht]
        refine s_app (m.up ((g35.trans g6).trans g7)) (er_var 2) (er_pair (er_var 4) (er_var 6)) (by omega) fun S8 u8 m8 => s_end (s_next (.keep (.keep (.keep (.drop (.drop (.drop (.drop (.drop .nil)))))))) ?_)
        exact ⟨chStep k s t, rfl, (((gS.trans g35).trans g6).trans g7).upd p0 u8, (s2.trans ((g35.trans g6).trans g7).g).trans u8.g, by rw [e]; exact m8, by omega, by rw [e1]; exact o2, by rw [e1]; exact hf2⟩
      · have e : chStep k s t = eraseD k (t.1, s.1) := by unfold chStep; rw [if_neg hne, ht]; rfl
        have hm : (t.1, s.1) ∈ k := (o1.resolve_left hne).resolve_left (by rw [ht]; decide)
        refine s_rem (m.up ((g35.trans g6).trans g7)) (er_var 2) (er_pair (er_var 6) (er_var 4)) hm (by decide) (u65 inferInstance) fun S8 u8 m8 => s_end (s_next (.keep (.keep (.keep (.drop (.drop (.drop (.drop (.drop .nil)))))))) ?_)
        exact ⟨chStep k s t, rfl, (((gS.trans g35).trans g6).trans g7).upd p0 u8, (s2.trans ((g35.trans g6).trans g7).g).trans u8.g, by rw [e]; exact m8, by omega, by rw [e1]; exact o2, by rw [e1]; exact hf2⟩
  · rintro Γ' S' ⟨k, rfl, gS, _, m, _, _, hf⟩
    have e : chGo k (path.drop (((path.length : Int) - 1).toNat - ([] : List Int).length)) = k := by
      cases hpl : path.length with
      | zero => rw [List.eq_nil_of_length_eq_zero hpl]; rfl
      | succ n =>
        have el : (((n + 1 : Nat) : Int) - 1).toNat - ([] : List Int).length = n := by show _ - 0 = _; omega
        rw [el, List.drop_eq_getElem_cons (by omega), List.drop_eq_nil_of_le (by omega)]
        rfl
    rw [e] at hf
    refine SB.fixM 2 gS p0 m fun S5 e5 g5 _ _ => ?_
    exact s_ret (er_var 2) fun S6 v g6 r => hq S6 v _ (g5.trans g6) r hf
theorem folGo_ne {f : Int → Option Int} : ∀ (n : Nat) (w : List Int) (x : Int), w ≠ [] → folGo f n w x ≠ []
  | 0, _, _, h => h
  | n + 1, w, x, h => by
    unfold folGo
    cases f x with
    | none => exact h
    | some y => exact folGo_ne n _ y (by simp)
theorem cal_follow : Cal "follow" 1 (Spf (fun a : List Lk × Int × Unit => a.1.length ≤ 2000) fun a => follow a.1 a.2.1) := by
  refine mkCal (d := d_follow) i_follow sc_follow g_follow (fun f cdv A outer s S a Q E hp hX hq => ?_) (hb := fun _ _ _ _ _ _ us hl => match us, hl with | [_, _], _ => rfl)
  obtain ⟨L, x, ⟨⟩⟩ := a
  have few : L.length ≤ 2000 := hp
  replace hq : ∀ S1 r y, Grow S S1 → Rp.rep S1.G r y → y = follow L x → Q r S1.H := hq
  have nd := sc_follow.nd
  show SB _ _ _ [some ⟨L⟩, some ⟨x⟩, none, none, none, none] S
  refine s_newD Int 2 nd fun S1 d g1 d0 m1 => ?_
  refine s_for PassesOwn.never rfl (it_list (er_var 0)) (bg_pair rfl (bg_name 3 nd) (bg_name 4 nd)) fun S2 g2 => ?_
  refine ⟨fun r Γ' S' => ∃ h n, Γ' = [some ⟨L⟩, some ⟨x⟩, some ⟨(⟨d⟩ : Adr)⟩, none, none, none] ∧ Grow S S' ∧ Same S2.G S'.G ∧ MD S' d h n ∧ n + r.length ≤ 2000 ∧ tblGo h r = tblOf L, ⟨_, 0, rfl, g1.trans g2, Same.refl _, m1.up g2, by omega, rfl⟩, fun r Γ' S' ⟨_, _, _, _, h, _⟩ => h, ?_, ?_⟩
  · rintro pre ⟨a, b⟩ r Γ' S' hx ⟨h, n, rfl, gS, s2, m, hn, hf⟩ S3 g3
    rw [List.length_cons] at hn
    refine s_dput (m.up g3) (er_var 4) (er_var 2) (er_var 3) (by omega) fun S4 u4 m4 => s_next (.keep (.keep (.keep (.drop (.drop (.drop .nil)))))) ?_
    exact ⟨_, n + 1, rfl, (gS.trans g3).upd d0 u4, (s2.trans g3.g).trans u4.g, m4, by omega, hf⟩
  · rintro Γ' S' ⟨h, n, rfl, gS, _, m, _, hf⟩
    have hf : h = tblOf L := hf
    subst hf
    refine SB.fixD 2 gS d0 m fun S5 e5 g5 _ _ => ?_
    refine s_setN 5 nd (en_lst1 (er_var 1)) fun S6 p g6 p0 m6 => ?_
    have p0' : S.H p = none := g5.h.free p0
    refine s_while PassesOwn.never (fun m Γ' S' => ∃ (w : List Int) (y : Int) (i : Nat), Γ' = [some ⟨L⟩, some ⟨x⟩, some ⟨(⟨tblOf L⟩ : Dct Int)⟩, none, none, some ⟨(⟨p⟩ : Adr)⟩] ∧ m = i ∧ w.length + i = L.length + 1 ∧ w.getLast? = some y ∧ Grow S S' ∧ ML S' p w ∧ folGo (tblOf L) i w y = follow L x) _
      ⟨[x], x, L.length, rfl, rfl, by rw [List.length_singleton]; omega, rfl, g5.trans g6, m6, rfl⟩ ?_
    rintro m' Γ' S' ⟨w, y, i, rfl, rfl, hl, hy, gS, m, hf⟩
    refine ⟨_, tr_and (p2 := default) (tr_inD (er_ixML m (er_var 5) (er_neg er_int) hy) (er_var 2)) fun _ => tr_cmp (cv_le (er_lenM b_len m (er_var 5)) (er_len b_len (er_var 0))), fun t S7 g7 => ?_, fun t S7 g7 => ?_⟩
    · obtain ⟨t1, t2⟩ := Bool.and_eq_true_iff.mp t
      have t2 := of_decide_eq_true t2
      obtain ⟨z, hz⟩ := Option.isSome_iff_exists.mp t1
      obtain ⟨i', rfl⟩ : ∃ i', m' = i' + 1 := ⟨m' - 1, by omega⟩
      refine s_app (m.up g7) (er_var 5) (er_dget (er_var 2) (er_ixML (m.up g7) (er_var 5) (er_neg er_int) hy) hz) (by omega) fun S8 u8 m8 => s_next (.keep (.keep (.keep (.keep (.keep (.keep .nil)))))) ?_
      refine ⟨i', by omega, w ++ [z], z, i', rfl, rfl, by rw [List.length_append, List.length_singleton]; omega, by simp, (gS.trans g7).upd p0' u8, m8, ?_⟩
      rw [← hf]
      conv => rhs; unfold folGo
      rw [show tblOf L y = some z from hz]
    · have e : folGo (tblOf L) m' w y = w := by
        cases m' with
        | zero => rfl
        | succ i =>
          unfold folGo
          cases hz : tblOf L y with
          | none => rfl
          | some z =>
            exfalso
            rw [show (⟨tblOf L⟩ : Dct Int).f y = some z from hz] at t
            simp at t
            omega
      rw [e] at hf
      refine SB.fixM 5 (gS.trans g7) p0' (m.up g7) fun S8 e8 g8 _ _ => ?_
      exact s_ret (er_var 5) fun S9 v g9 r => hq S9 v _ (g8.trans g9) r hf
theorem chGo_len : ∀ (path : List Sp2) (k : List Lk), (chGo k path).length ≤ k.length + path.length
  | [], k => Nat.le_refl _
  | [s], k => Nat.le_succ _
  | s :: t :: r, k => by
    have h := chGo_len (t :: r) (chStep k s t)
    have q := chStep_len k s t
    unfold chGo
    rw [List.length_cons]
    omega
structure PreNw (ws : List (List Int)) (path : List Sp2) : Prop where
  few1 : ws.flatten.length ≤ 900
  few2 : path.length ≤ 900
  ne : ∀ w ∈ ws, w ≠ []
  pn : path ≠ []
  ok : chOk (linksOf ws) path
theorem few_of_ne : ∀ ws : List (List Int), (∀ w ∈ ws, w ≠ []) → ws.length ≤ ws.flatten.length
  | [], _ => Nat.le_refl _
  | w :: ws, h => by
    have h1 := few_of_ne ws fun w hw => h w (List.mem_cons_of_mem _ hw)
    have h2 : 0 < w.length := List.length_pos_iff.mpr (h w List.mem_cons_self)
    rw [List.length_cons, List.flatten_cons, List.length_append]
    omega
theorem cal_new_ways : Cal "new_ways" 2 (Spf (fun a : List (List Int) × List Sp2 × Unit => PreNw a.1 a.2.1) fun a => newWays a.1 a.2.1) := by
  refine mkCal (d := d_new_ways) i_new_ways sc_new_ways g_new_ways (fun f cdv A outer s S a Q E hp hX hq => ?_) (hb := fun _ _ _ _ _ _ us hl => match us, hl with | [_, _], _ => rfl)
  obtain ⟨ws, path, ⟨⟩⟩ := a
  have P : PreNw ws path := hp
  have few1 := P.few1
  have few2 := P.few2
  have ne := P.ne
  have ok := P.ok
  have hwl := few_of_ne ws ne
  obtain ⟨s0, pr, hpath⟩ : ∃ s0 pr, path = s0 :: pr := by
    cases h : path with
    | nil => exact absurd h P.pn
    | cons a b => exact ⟨a, b, rfl⟩
  replace hq : ∀ S1 r y, Grow S S1 → Rp.rep S1.G r y → y = newWays ws path → Q r S1.H := hq
  have nd := sc_new_ways.nd
  have hll := linksOf_len ws
  have hcl := chGo_len path (linksOf ws)
  show SB _ _ _ [some ⟨ws⟩, some ⟨path⟩, none, none, none, none, none, none] S
  refine s_set (x := chGo (linksOf ws) path) 2 nd (er_call cal_changed_links (u := (linksOf ws, path, ())) (ar_cons (er_call cal_links_of (u := (ws, ())) (ar_cons (er_var 0) ar_nil) (show ws.flatten.length ≤ 1000 by omega)) (ar_cons (er_var 1) ar_nil)) ⟨by show (linksOf ws).length ≤ 1000; omega, by show path.length ≤ 1000; omega, ok⟩) fun S1 g1 => ?_
  refine s_setLc (h := fun w : List Int => w.headD 0) 4 3 rfl nd (it_list (er_var 0)) (by omega) (blkOk_by (N := N_new_ways) (sc := defScope s_new_ways) (by decide +kernel)) (fun w hw S2 g2 X' hb => ?_) (fun S2 p g2 p0 m2 => ?_) (sw_true rfl rfl rfl (by decide +kernel))
  · obtain ⟨_, _, _, _, _, rfl⟩ := hb
    refine er_ix (er_var 3) er_int (by decide) ?_
    cases hwe : w with
    | nil => exact absurd hwe (ne w hw)
    | cons a b => rfl
  have p0' : S.H p = none := g1.h.free p0
  refine s_asg (x := s0) (er_ix (er_var 1) er_int (by decide) (by rw [hpath]; rfl)) (bg_pair rfl (bg_name 5 nd) (bg_name 6 nd)) fun S3 g3 => ?_
  refine s_app (m2.up g3) (er_var 4) (er_var 5) (by rw [List.length_map]; omega) fun S4 u4 m4 => ?_
  have g14 := ((g1.trans g2).trans g3).upd p0' u4
  refine SB.fixM 4 g14 p0' m4 fun S5 e5 g5 _ _ => ?_
  refine s_ret (en_lc (h := fun x => follow (chGo (linksOf ws) path) x) 7 rfl nd (it_list (er_var 4)) (by rw [List.length_append, List.length_map]; show _ + 1 ≤ _; omega) (blkOk_by (N := N_new_ways) (sc := defScope s_new_ways) (by decide +kernel)) (fun x _ S2 g2 X' hb => ?_)).er fun S6 v g6 r => hq S6 v _ (g5.trans g6) r ?_
  · obtain ⟨_, _, _, _, _, rfl⟩ := hb
    exact er_call cal_follow (u := (chGo (linksOf ws) path, x, ())) (ar_cons (er_var 2) (ar_cons (er_var 7) ar_nil)) (show (chGo (linksOf ws) path).length ≤ 2000 by omega)
  · unfold newWays
    rw [hpath]
    rfl
end
end Fl

set_option Elab.async false
set_option linter.all false
set_option maxRecDepth 100000
set_option maxHeartbeats 4000000
namespace Fl
open PySem PySem.Spec PyProof.Rows L2
section
variable {prog : Program} {w : World} {A : Around} {E : Value → Shared → Prop} {s : Shared}
/-- what behindhand list(it) does for a reversed list: the items, last first, go into the new list -/
theorem listOfRev {it l : Addr} {vs : Array Value} {Q : Value → Shared → Prop} (hh : A.handled = none) (hi : s.heap.IsRevIter it l ((vs.size : Int) - 1)) (hl : s.heap.IsList l vs) (ne : l ≠ it) (hn : vs.size ≤ sizeLine)
    (q : ∀ (h' : Heap) (tk : Nat) (acc : Array Value) (n : Nat), (∀ b o, b ≠ it → s.heap.get? b = some o → h'.get? b = some o) → h'.get? s.heap.objs.size = some { cls := .type "list", dict := none, data := .seq acc n, slots := #[] } →
      ItemsOf (fun i v => vs[vs.size - 1 - i]? = some v) acc vs.size → Q (.ref s.heap.objs.size) { s with heap := h', toks := tk }) : wpAny (model prog w) A (call (.type "list") [.ref it]) Q E s := by
  have W := (Walks.listRev (prog := prog) (w := w) (A := A.in1.in1) hh it l ne vs).toS
  obtain ⟨oi, hoi, _⟩ := id hi
  obtain ⟨ol, hol, _⟩ := id hl
  have nSi : s.heap.objs.size ≠ it := Nat.ne_of_gt (Heap.lt_size hoi)
  have nSl : s.heap.objs.size ≠ l := Nat.ne_of_gt (Heap.lt_size hol)
  have nSf : s.heap.objs.size ∉ [it, l] := fun z => by
    rcases List.mem_cons.mp z with z | z
    · exact nSi z
    · exact nSl (List.mem_singleton.mp z)
  refine callType_codes (Q₁ := fun x s1 => x = .ref s.heap.objs.size ∧ s1 = { s with heap := s.heap.push { cls := .type "list", data := .seq #[] } }) F.called_list (F.typeCall_list_1 _) F.entry_list_init (code_list_new _ ⟨rfl, rfl⟩) fun x s1 hx => ?_
  obtain ⟨rfl, rfl⟩ := hx
  have eS : (s.heap.push { cls := .type "list", data := .seq #[] }).get? s.heap.objs.size = some { cls := .type "list", data := .seq #[] } := Heap.get?_push_size _ rfl
  refine ⟨⟨_, eS, rfl⟩, F.args_list_init_2 _ _, ?_⟩
  show wpAny _ A.in1.in1 (Builtin.List.listItems (.ref s.heap.objs.size) >>= fun old => Builtin.List.listUpdate (.ref s.heap.objs.size) (fun _ => #[]) >>= fun _ => letGo old.toList.reverse >>= fun _ => Builtin.List.listExtendWith (.ref s.heap.objs.size) (.ref it) .none) _ _ _
  unfold Builtin.List.listItems
  refine wpAny_bind (wpAny_bind (wpAny_seqItems eS rfl (wpAny_pure ?_)))
  refine wpAny_bind (show wpAny _ A.in1.in1 (updateSeq s.heap.objs.size (fun _ => #[])) _ _ _ from wpAny_updateSeq eS rfl ?_)
  have eS2 := Heap.get?_update_self (Obj.mapSeq (fun _ => (#[] : Array Value))) eS rfl
  have oth : ∀ b o, b ≠ s.heap.objs.size → s.heap.get? b = some o → ((s.heap.push { cls := .type "list", data := .seq #[] }).update s.heap.objs.size (Obj.mapSeq (fun _ => (#[] : Array Value)))).get? b = some o :=
    fun b o hb e => (Heap.get?_update_other _ _ (Ne.symm hb)).trans (Heap.get?_push_of_some _ e)
  refine wpAny_bind (wpAny_letGo ?_)
  have hi2 : ((s.heap.push { cls := .type "list", data := .seq #[] }).update s.heap.objs.size (Obj.mapSeq (fun _ => (#[] : Array Value)))).IsRevIter it l ((vs.size : Int) - 1) := hi.at fun o e => oth it o (Ne.symm nSi) e
  have hl2 : ((s.heap.push { cls := .type "list", data := .seq #[] }).update s.heap.objs.size (Obj.mapSeq (fun _ => (#[] : Array Value)))).IsList l vs := by
    obtain ⟨o, ho, r⟩ := hl
    exact ⟨o, oth l o (Ne.symm nSl) ho, r⟩
  have hT := Heap.IsRevIter.typeIs (s := { s with heap := (s.heap.push { cls := .type "list", data := .seq #[] }).update s.heap.objs.size (Obj.mapSeq (fun _ => (#[] : Array Value))) }) hi2
  have h1 : Builtin.List.listSameRef (.ref s.heap.objs.size) (.ref it) = false := by simp [Builtin.List.listSameRef, nSi]
  unfold Builtin.List.listExtendWith
  refine wpAny_bind (wpAny_typeOf hT ?_)
  rw [if_neg (by rw [h1]; decide)]
  refine wpAny_bind (wpAny_pyIter_revIter hi2 (wpAny_bind (wpAny_holding ?_)))
  unfold Builtin.List.listLengthHint
  refine wpAny_bind (wpAny_specialOf hT RT.nolen_lri ?_)
  show wpAny _ A.in1.in1 (specialOf (Value.ref it) (Str.ofString "__length_hint__") >>= _) _ _ _
  refine wpAny_bind (wpAny_specialOf hT RT.hint_lri ?_)
  generalize hid : ("list_reverseiterator.__length_hint__" : String) = id0
  wp_delta
  rw [show splitId id0 = some ("list_reverseiterator", "__length_hint__") from by subst hid; decide +kernel]
  subst hid
  refine wpAny_bind (wpAny_isInstance (b := true) hT (by rw [isSubtype_type]; kernel_rfl) (wpAny_pure ?_))
  rw [if_neg (by decide)]
  have e0 : ((vs.size : Nat) : Int) - 1 - ((0 : Nat) : Int) = (vs.size : Int) - 1 := by omega
  refine wpAny_pure ⟨plainId_quiet F.plain_extend_loop _, codeAny_extend_loopS W hn _ nSf _ vs.size 0 _ _ _ rfl (Nat.zero_le _) ⟨Nat.zero_le _, by rw [e0]; exact hi2, hl2⟩ eS2 (ItemsOf.nil _) fun s' acc c' hm hS' hacc => ?_⟩
  rw [Moved.eq_with hm]
  refine ⟨rfl, q s'.heap s'.toks acc c' (fun b o hb e => hm.heap b o (fun z => ?_) (oth b o (Nat.ne_of_lt (Heap.lt_size e)) e)) hS' hacc⟩
  rcases List.mem_cons.mp z with z | z
  · exact absurd (Heap.lt_size e) (by rw [z]; exact Nat.lt_irrefl _)
  · exact hb (List.mem_singleton.mp z)
end
def tLRev (K : PySem.W.Frag) (te : TE) : TE := fun σ H Q => te σ H fun v H1 => ∃ (a : Addr) (xs : List V), v = .ref a ∧ SqL K H1 a xs ∧ ∀ q, H1 q = none → Q (.ref q) (upd H1 q (.lst xs.reverse))
theorem pe_lrev {X : Cx} {e : Expr} {te : TE} {p p2 pos pos2 : Pos} (hc : X.calm = true) (hg : Gl X "list") (hm : X.mg "list" = none) (hg2 : Gl X "reversed") (hm2 : X.mg "reversed" = none) (he : PE X e te) (hs : starEach [e] X.env = (false, eval e X.env) :: starEach [] X.env)
    (hs2 : starEach [.Call (.Name "reversed" p2) [e] [] pos2] X.env = (false, eval (.Call (.Name "reversed" p2) [e] [] pos2) X.env) :: starEach [] X.env) : PE X (.Call (.Name "list" p) [.Call (.Name "reversed" p2) [e] [] pos2] [] pos) (tLRev X.K te) := by
  refine ⟨fun pins s σ H Q I h => Call_ (ld_blt I hg hm boot_list (PyProof.Rows.callWith_type1 (args_cons (Call_ (ld_blt I hg2 hm2 PyProof.Rows.boot_reversed (PyProof.Rows.callWith_type1 (args_cons (thn (he.run pins s σ H _ I h) fun u s1 ⟨v, H1, I1, r1, q1⟩ => args_nil ?_) hs) hs rfl))) hs2) hs2 rfl))⟩
  obtain ⟨a, xs, rfl, hq, q⟩ := q1
  obtain rfl : u = Value.ref a := r1
  obtain ⟨its, rv, p', hz⟩ := I1.list hq
  refine call_reversed_list p'.isList (args_nil ?_)
  obtain ⟨ol, hol, _⟩ := id p'.isList
  refine listOfRev (s := { s1 with heap := s1.heap.push (revObj a ((its.toArray.size : Int) - 1)) }) (I1.ok.hd hc) ⟨_, Heap.get?_push_size _ rfl, rfl, rfl⟩ (p'.isList.push _) (Nat.ne_of_lt (Heap.lt_size hol)) (by rw [List.size_toArray, ← rv.length]; exact hz) fun h' tk acc n hk e hi => ?_
  have kp : ∀ b o, s1.heap.get? b = some o → h'.get? b = some o := fun b o z => hk b o (Nat.ne_of_lt (Heap.lt_size z)) (Heap.get?_push_of_some _ z)
  have hle : s1.heap.objs.size ≤ (s1.heap.push (revObj a ((its.toArray.size : Int) - 1))).objs.size := by
    rw [size_push']
    exact Nat.le_succ _
  exact ⟨.ref _, _, I1.laid (t' := tk) kp hle (show ObjOk X.prog X.w _ h' _ (.lst xs.reverse) from ⟨by rw [List.length_reverse]; exact hz, acc.toList, n, RT.vals_rev rv hi, e⟩), rfl, q _ (I1.hok.fresh hle)⟩
theorem er_listRev {α : Type} [Rp α] {X : Cx} {a : Expr} {Γ : Gm} {S : HS} {xs : List α} {p p2 pos pos2 : Pos} (hc : X.calm = true) (hm : X.mg "list" = none) (hm2 : X.mg "reversed" = none) (ha : ER X a Γ S xs) (hg : Gl X "list" := by rfl) (hg2 : Gl X "reversed" := by rfl)
    (hs : starEach [a] X.env = (false, eval a X.env) :: starEach [] X.env := by rfl) (hs2 : starEach [.Call (.Name "reversed" p2) [a] [] pos2] X.env = (false, eval (.Call (.Name "reversed" p2) [a] [] pos2) X.env) :: starEach [] X.env := by rfl) :
    ER X (.Call (.Name "list" p) [.Call (.Name "reversed" p2) [a] [] pos2] [] pos) Γ S xs.reverse := fun σ hσ S1 g Q k =>
  w_pe (pe_lrev hc hg hm hg2 hm2 pe_w hs hs2) (ha σ hσ S1 g _ fun S2 v g2 ⟨q, vs, e1, e2, r⟩ => ⟨q, vs, e1, SqL.of (S2.le _ _ e2), fun p' hp => k (S2.new p' _ hp) _ (g2.trans (.new S2 p' _ hp)) ⟨p', _, rfl, HS.new_at, (reps.rev r).mono (Grow.new S2 p' _ hp).g⟩⟩)
/-! ### search.py: the table, the next spots, the way back -/
def atGo : (Int → Option (Option Int)) → Option Int → List Int → Int → Option (Option Int)
  | f, _, [] => f
  | f, b, c :: r => atGo (fun j => if j = c then some b else f j) (some c) r
def aheadGo : (Int → Option (Option Int)) → List (List Int) → Int → Option (Option Int)
  | f, [] => f
  | f, w :: r => aheadGo (atGo f none w) r
def aheadT (ws : List (List Int)) : Int → Option (Option Int) := aheadGo (fun _ => none) ws
def nextSpots (fl : Flo) (cl : List Int) (T : Int → Option (Option Int)) (s : Sp2) : List Sp2 :=
  if s.2 then ((fl.near.getD s.1.toNat []).filter fun o => !decide (o ∈ cl)).map (fun o => (o, false)) ++ (if (T s.1).isSome then [(s.1, false)] else [])
  else match T s.1 with
    | none => [(s.1, true)]
    | some none => []
    | some (some b) => [(b, true)]
def pathGo (sp : List Sp2) (pa : List (Option Int)) : Nat → List Sp2 → Option Int → List Sp2
  | 0, acc, _ => acc
  | n + 1, acc, i => match i with
    | none => acc
    | some j => pathGo sp pa n (acc ++ [sp.getD j.toNat (0, false)]) (pa.getD j.toNat none)
def pathTo (sp : List Sp2) (pa : List (Option Int)) (i : Int) : List Sp2 := (pathGo sp pa (i.toNat + 1) [] (some i)).reverse
section
variable [c : Ctx]
theorem cal_ahead_table : Cal "ahead_table" 1 (Spf (fun a : List (List Int) × Unit => a.1.flatten.length ≤ 1000) fun a => (⟨aheadT a.1⟩ : Dct (Option Int))) := by
  refine mkCal (d := d_ahead_table) i_ahead_table sc_ahead_table g_ahead_table (fun f cdv A outer s S a Q E hp hX hq => ?_) (hb := fun _ _ _ _ _ _ us hl => match us, hl with | [_], _ => rfl)
  obtain ⟨ws, ⟨⟩⟩ := a
  have few : ws.flatten.length ≤ 1000 := hp
  replace hq : ∀ S1 r y, Grow S S1 → Rp.rep S1.G r y → y = (⟨aheadT ws⟩ : Dct (Option Int)) → Q r S1.H := hq
  have nd := sc_ahead_table.nd
  show SB _ _ _ [some ⟨ws⟩, none, none, none, none] S
  refine s_newD (Option Int) 1 nd fun S1 d g1 d0 m1 => ?_
  refine s_for PassesOwn.never rfl (it_list (er_var 0)) (bg_name 2 nd) fun S2 g2 => ?_
  refine ⟨fun r Γ' S' => ∃ h n, Γ' = [some ⟨ws⟩, some ⟨(⟨d⟩ : Adr)⟩, none, none, none] ∧ Grow S S' ∧ Same S2.G S'.G ∧ MD S' d h n ∧ n + r.flatten.length ≤ 1000 ∧ aheadGo h r = aheadT ws, ⟨_, 0, rfl, g1.trans g2, Same.refl _, m1.up g2, by omega, rfl⟩, fun r Γ' S' ⟨_, _, _, _, h, _⟩ => h, ?_, ?_⟩
  · rintro pre w r Γ' S' hx ⟨h, n, rfl, gS, s2, m, hn, hf⟩ S3 g3
    rw [List.flatten_cons, List.length_append] at hn
    refine s_set (x := (none : Option Int)) 3 nd er_non fun S4 g4 => ?_
    refine s_for PassesOwn.never rfl (it_list (er_var 2)) (bg_name 4 nd) fun S5 g5 => ?_
    refine ⟨fun r1 Γ' S' => ∃ (h : Int → Option (Option Int)) (n : Nat) (b : Option Int), Γ' = [some ⟨ws⟩, some ⟨(⟨d⟩ : Adr)⟩, some ⟨w⟩, some ⟨b⟩, none] ∧ Grow S S' ∧ Same S5.G S'.G ∧ MD S' d h n ∧ n + r1.length + r.flatten.length ≤ 1000 ∧ aheadGo (atGo h b r1) r = aheadT ws, ⟨h, n, none, rfl, ((gS.trans g3).trans g4).trans g5, Same.refl _, ((m.up g3).up g4).up g5, by omega, hf⟩, fun r Γ' S' ⟨_, _, _, _, _, h, _⟩ => h, ?_, ?_⟩
    · rintro pre1 x r1 Γ' S' hx1 ⟨h, n, b, rfl, gS, s5, m, hn, hf⟩ S6 g6
      rw [List.length_cons] at hn
      refine s_dput (m.up g6) (er_var 3) (er_var 1) (er_var 4) (by omega) fun S7 u7 m7 => ?_
      refine s_set (x := some x) 3 nd (er_some (er_var 4)) fun S8 g8 => s_next (.keep (.keep (.keep (.keep (.drop .nil))))) ?_
      exact ⟨_, n + 1, some x, rfl, ((gS.trans g6).upd d0 u7).trans g8, ((s5.trans g6.g).trans u7.g).trans g8.g, m7.up g8, by omega, hf⟩
    · rintro Γ' S' ⟨h, n, b, rfl, gS, s5, m, hn, hf⟩
      rw [List.length_nil] at hn
      exact s_next (.keep (.keep (.drop (.drop (.drop .nil))))) ⟨h, n, rfl, gS, (s2.trans ((g3.trans g4).trans g5).g).trans s5, m, by omega, hf⟩
  · rintro Γ' S' ⟨h, n, rfl, gS, _, m, _, hf⟩
    have hf : h = aheadT ws := hf
    subst hf
    refine SB.fixD 1 gS d0 m fun S5 e5 g5 _ _ => ?_
    exact s_ret (er_var 1) fun S6 v g6 r => hq S6 v _ (g5.trans g6) r rfl
structure PreNs (fl : Flo) (s : Sp2) : Prop where
  ok : fl.Ok
  h0 : 0 ≤ s.1
  h1 : s.1 < fl.size
theorem near_at {fl : Flo} {p : Int} (h0 : 0 ≤ p) (h1 : p < fl.size) : fl.near[p.toNat]? = some (fl.near.getD p.toNat []) := by
  unfold Flo.size at h1
  rw [List.getD_eq_getElem?_getD, List.getElem?_eq_getElem (by omega)]
  rfl
theorem cal_next_spots : Cal "next_spots" 1 (Spf (fun a : Flo × List Int × Dct (Option Int) × Sp2 × Unit => PreNs a.1 a.2.2.2.1) fun a => nextSpots a.1 a.2.1 a.2.2.1.f a.2.2.2.1) := by
  refine mkCal (d := d_next_spots) i_next_spots sc_next_spots g_next_spots (fun f cdv A outer s S a Q E hp hX hq => ?_) (hb := fun _ _ _ _ _ _ us hl => match us, hl with | [_, _, _, _], _ => rfl)
  obtain ⟨fl, cl, T, s0, ⟨⟩⟩ := a
  obtain ⟨ok, h0, h1⟩ : PreNs fl s0 := hp
  replace hq : ∀ S1 r y, Grow S S1 → Rp.rep S1.G r y → y = nextSpots fl cl T.f s0 → Q r S1.H := hq
  have nd := sc_next_spots.nd
  show SB _ _ _ [some ⟨fl⟩, some ⟨cl⟩, some ⟨T⟩, some ⟨s0⟩, none, none, none, none, none] S
  refine s_asg (x := s0) (er_var 3) (bg_pair rfl (bg_name 4 nd) (bg_name 5 nd)) fun S1 g1 => ?_
  have hn := near_at h0 h1
  have hnl := ok.nearL _ (List.mem_of_getElem? hn)
  refine s_if (tr_bool (er_var 5)) (fun t S2 g2 => ?_) (fun t S2 g2 => s_end ?_)
  · refine s_setLcI (h := fun o : Int => (o, false)) 7 6 (fun o : Int => !decide (o ∈ cl)) rfl nd (it_list (er_ix (eFlo_near (er_var 0)) (er_var 4) h0 hn)) (by omega) (blkOk_by (N := N_next_spots) (sc := defScope s_next_spots) (by decide +kernel)) (fun x _ S3 g3 X' hb => ?_) (fun x _ _ S3 g3 X' hb => ?_) (fun S3 p g3 p0 m3 => ?_) (sw_true rfl rfl rfl (by decide +kernel))
    · obtain ⟨_, _, _, _, _, rfl⟩ := hb
      exact tr_cmp (cv_niL (er_var 6) (er_var 1))
    · obtain ⟨_, _, _, _, _, rfl⟩ := hb
      exact er_pair (er_var 6) er_bl
    have p0' : S.H p = none := (g1.trans g2).h.free p0
    refine s_if (tr_inD (er_var 4) (er_var 2)) (fun t2 S4 g4 => ?_) (fun t2 S4 g4 => s_end ?_)
    · refine s_app (m3.up g4) (er_var 7) (er_pair (er_var 4) er_bl) (by rw [List.length_map]; have := List.length_filter_le (fun o : Int => !decide (o ∈ cl)) (fl.near.getD s0.1.toNat []); omega) fun S5 u5 m5 => s_end ?_
      refine SB.fixM 7 ((((g1.trans g2).trans g3).trans g4).upd p0' u5) p0' m5 fun S6 e6 g6 _ _ => ?_
      exact s_ret (er_var 7) fun S7 v g7 r => hq S7 v _ (g6.trans g7) r (by unfold nextSpots; rw [if_pos t, if_pos t2])
    · refine SB.fixM 7 (((g1.trans g2).trans g3).trans g4) p0' (m3.up g4) fun S6 e6 g6 _ _ => ?_
      exact s_ret (er_var 7) fun S7 v g7 r => hq S7 v _ (g6.trans g7) r (by unfold nextSpots; rw [if_pos t, t2]; exact (List.append_nil _).symm)
  · refine s_if (tr_niD (er_var 4) (er_var 2)) (fun t2 S3 g3 => ?_) (fun t2 S3 g3 => s_end ?_)
    · refine s_ret (er_lst1 (er_pair (er_var 4) er_bl)) fun S7 v g7 r => hq S7 v _ (((g1.trans g2).trans g3).trans g7) r ?_
      unfold nextSpots
      rw [t]
      cases hT : T.f s0.1 with
      | none => rfl
      | some b => rw [hT] at t2; cases t2
    · obtain ⟨b, hb⟩ : ∃ b, T.f s0.1 = some b := by
        cases hT : T.f s0.1 with
        | none => rw [hT] at t2; cases t2
        | some b => exact ⟨b, rfl⟩
      refine s_set (x := b) 8 nd (er_dget (er_var 2) (er_var 4) hb) fun S4 g4 => ?_
      refine s_if (tr_cmp (cv_isN (er_var 8))) (fun t3 S5 g5 => ?_) (fun t3 S5 g5 => s_end ?_)
      · have eb : b = none := Option.isNone_iff_eq_none.mp t3
        subst eb
        refine s_ret (x := ([] : List Sp2)) er_lst0 fun S7 v g7 r => hq S7 v _ (((((g1.trans g2).trans g3).trans g4).trans g5).trans g7) r ?_
        unfold nextSpots
        rw [t, hb]
        rfl
      · obtain ⟨z, rfl⟩ : ∃ z, b = some z := by
          cases b with
          | none => cases t3
          | some z => exact ⟨z, rfl⟩
        refine s_ret (er_lst1 (er_pair (er_out (er_var 8)) er_bl)) fun S7 v g7 r => hq S7 v _ (((((g1.trans g2).trans g3).trans g4).trans g5).trans g7) r ?_
        unfold nextSpots
        rw [t, hb]
        rfl
structure PrePt (sp : List Sp2) (pa : List (Option Int)) (i : Int) : Prop where
  len : sp.length = pa.length
  few : sp.length ≤ 1000
  dn : ∀ (j : Nat) (k : Int), pa[j]? = some (some k) → 0 ≤ k ∧ k < j
  i0 : 0 ≤ i
  i1 : i < sp.length
theorem pathGo_none (sp : List Sp2) (pa : List (Option Int)) (n : Nat) (acc : List Sp2) : pathGo sp pa n acc none = acc := by cases n <;> rfl
theorem cal_path_to : Cal "path_to" 1 (Spf (fun a : List Sp2 × List (Option Int) × Int × Unit => PrePt a.1 a.2.1 a.2.2.1) fun a => pathTo a.1 a.2.1 a.2.2.1) := by
  refine mkCal (d := d_path_to) i_path_to sc_path_to g_path_to (fun f cdv A outer s S a Q E hp hX hq => ?_) (hb := fun _ _ _ _ _ _ us hl => match us, hl with | [_, _, _], _ => rfl)
  obtain ⟨sp, pa, i, ⟨⟩⟩ := a
  obtain ⟨len, few, dn, i0, i1⟩ : PrePt sp pa i := hp
  replace hq : ∀ S1 r y, Grow S S1 → Rp.rep S1.G r y → y = pathTo sp pa i → Q r S1.H := hq
  have nd := sc_path_to.nd
  show SB _ _ _ [some ⟨sp⟩, some ⟨pa⟩, some ⟨i⟩, none, none] S
  refine s_setN (α := Sp2) 3 nd en_lst0 fun S1 p g1 p0 m1 => ?_
  refine s_set (x := some i) 4 nd (er_some (er_var 2)) fun S2 g2 => ?_
  refine s_while PassesOwn.never (fun m Γ' S' => ∃ (acc : List Sp2) (o : Option Int), Γ' = [some ⟨sp⟩, some ⟨pa⟩, some ⟨i⟩, some ⟨(⟨p⟩ : Adr)⟩, some ⟨o⟩] ∧ acc.length + m ≤ 1000 ∧ (∀ j, o = some j → 0 ≤ j ∧ j < m ∧ j < sp.length) ∧ Grow S S' ∧ ML S' p acc ∧ pathGo sp pa m acc o = pathGo sp pa (i.toNat + 1) [] (some i)) _
    ⟨[], some i, rfl, (by rw [List.length_nil]; omega), fun j e => by cases e; omega, g1.trans g2, m1.up g2, rfl⟩ ?_
  rintro m Γ' S' ⟨acc, o, rfl, hl, ho, gS, hm, hf⟩
  refine ⟨_, tr_cmp (cv_notN (er_var 4)), fun t S3 g3 => ?_, fun t S3 g3 => ?_⟩
  · obtain ⟨j, rfl⟩ := Option.isSome_iff_exists.mp t
    obtain ⟨j0, jm, jl⟩ := ho j rfl
    have e1 : sp[j.toNat]? = some (sp.getD j.toNat (0, false)) := by
      rw [List.getD_eq_getElem?_getD, List.getElem?_eq_getElem (by omega)]
      rfl
    have e2 : pa[j.toNat]? = some (pa.getD j.toNat none) := by
      rw [List.getD_eq_getElem?_getD, List.getElem?_eq_getElem (by omega)]
      rfl
    obtain ⟨m', rfl⟩ : ∃ m', m = m' + 1 := ⟨m - 1, by omega⟩
    refine s_app (hm.up g3) (er_var 3) (er_ix (er_var 0) (er_out (er_var 4)) j0 e1) (by omega) fun S4 u4 m4 => ?_
    refine s_set (x := pa.getD j.toNat none) 4 nd (er_ix (er_var 1) (er_out (er_var 4)) j0 e2) fun S5 g5 => s_next (.keep (.keep (.keep (.keep (.keep .nil))))) ?_
    refine ⟨m', by omega, acc ++ [sp.getD j.toNat (0, false)], _, rfl, by rw [List.length_append]; show acc.length + 1 + m' ≤ _; omega, fun k hk => ?_, ((gS.trans g3).upd p0 u4).trans g5, m4.up g5, hf⟩
    obtain ⟨k0, k1⟩ := dn j.toNat k (by rw [e2, hk])
    exact ⟨k0, by omega, by omega⟩
  · have eo : o = none := by cases o with | none => rfl | some j => cases t
    subst eo
    rw [pathGo_none] at hf
    refine SB.fixM 3 (gS.trans g3) p0 (hm.up g3) fun S5 e5 g5 _ _ => ?_
    exact s_ret (er_listRev rfl b_list b_reversed (er_var 3)) fun S6 v g6 r => hq S6 v _ (g5.trans g6) r (by unfold pathTo; rw [← hf])
end
end Fl

set_option Elab.async false
set_option linter.all false
set_option maxRecDepth 100000
set_option maxHeartbeats 4000000
namespace Fl
open PySem PySem.Spec PyProof.Rows L2
/-! ### sets of spots: tuples (cell, outward) -/
/-- ints and truth values, by value -/
def isN : Int → Value → Bool
  | k, .int i _ => i == k
  | k, .bool b => PpSet.b2 b == k
  | _, _ => false
theorem isN_cases {k : Int} {v : Value} (h : isN k v = true) : (∃ t, v = .int k t) ∨ ∃ b, v = .bool b ∧ PpSet.b2 b = k := by
  cases v with
  | int i t => exact .inl ⟨t, by rw [show i = k from eq_of_beq h]⟩
  | bool b => exact .inr ⟨b, rfl, eq_of_beq h⟩
  | _ => cases h
theorem b2_ite (b : Bool) : (if b then 1 else 0 : Int) = PpSet.b2 b := by cases b <;> rfl
def nKind (P : Program) (w : World) : PySem.KeyKind P w Int where
  is := isN
  hash := hashInt
  inj := fun v a b ha hb => by
    rcases isN_cases ha with ⟨t, rfl⟩ | ⟨c, rfl, e⟩
    · exact eq_of_beq hb
    · rw [← e]; exact eq_of_beq hb
  byValue := fun k v h => by rcases isN_cases h with ⟨t, rfl⟩ | ⟨c, rfl, e⟩ <;> rfl
  pyHash := fun hv h => by
    rcases isN_cases hv with ⟨t, rfl⟩ | ⟨c, rfl, e⟩
    · exact wpAny_pyHash_int h
    · exact PpSet.pyHash_bool (by unfold PpSet.hB; rw [e]; exact h)
  eqBool := fun {A E s a b u v Q} hu hv h => by
    rcases isN_cases hu with ⟨t, rfl⟩ | ⟨c, rfl, e⟩ <;> rcases isN_cases hv with ⟨t2, rfl⟩ | ⟨c2, rfl, e2⟩
    · exact wpAny_eqBool_int h
    · exact SeqAt.EqAt.int_bool a t c2 _ _ _ _ (by rw [b2_ite, e2]; exact h)
    · exact SeqAt.EqAt.bool_int c b t2 _ _ _ _ (by rw [b2_ite, e]; exact h)
    · refine SeqAt.EqAt.bool_bool c c2 _ _ _ _ ?_
      have e3 : (c == c2) = decide (a = b) := by
        rw [← e, ← e2]
        cases c <;> cases c2 <;> rfl
      rw [e3]
      exact h
  «strs» := fun k x t v h => by cases h
def kl (k : Sp2) : List Int := [k.1, PpSet.b2 k.2]
theorem kl_inj {a b : Sp2} (h : kl a = kl b) : a = b := by
  obtain ⟨a1, a2⟩ := a
  obtain ⟨b1, b2⟩ := b
  unfold kl at h
  injection h with h1 h2
  injection h2 with h2 _
  have h1 : a1 = b1 := h1
  subst h1
  cases a2 <;> cases b2 <;> first | rfl | cases h2
section
variable {P : Program} {w : World} {A : Around} {E : Value → Shared → Prop} {s : Shared}
abbrev hsp (P : Program) (w : World) (k : Sp2) : Int := tupleKeyHash (nKind P w) (kl k)
/-- the spot k stands at a -/
abbrev At2 (P : Program) (w : World) (h : Heap) (k : Sp2) (a : Addr) : Prop := IsTupleKey (nKind P w) h (kl k) a
theorem at2_inj {h : Heap} {x y : Sp2} {a : Addr} (hx : At2 P w h x a) (hy : At2 P w h y a) : x = y := kl_inj (IsTupleKey.inj hx hy)
theorem at2_dec (x y : Sp2) : decide (kl x = kl y) = decide (x = y) := by
  by_cases e : x = y
  · subst e
    simp
  · rw [decide_eq_false e, decide_eq_false fun z => e (kl_inj z)]
/-- its items carry no class, and hash by value -/
theorem itemsN {k : List Int} {vs : List Value} (h : ItemsAre (nKind P w) k vs) : ∀ v ∈ vs, (∀ n, ofAClassStatement n v = pure false) ∧ ∀ n, hashByValue n v = pure true := by
  induction h with
  | nil => exact fun v hv => nomatch hv
  | @cons k0 u ks vs h1 _ ih =>
    intro v hv
    rcases List.mem_cons.mp hv with rfl | hv
    · rcases isN_cases h1 with ⟨t, rfl⟩ | ⟨c, rfl, _⟩
      · exact ⟨fun n => by cases n <;> rfl, fun n => by cases n <;> rfl⟩
      · exact ⟨fun n => by cases n <;> rfl, fun n => by cases n <;> rfl⟩
    · exact ih v hv
theorem noClass2 {k : Sp2} {b : Addr} {Q : Bool → Shared → Prop} (hb : At2 P w s.heap k b) (q : Q false s) : wpAny (model P w) A (ofAClassStatement 8 (.ref b)) Q E s := by
  have hT := hb.typeIs
  obtain ⟨o, its, n, ho, _, hd, hi⟩ := hb
  unfold ofAClassStatement
  refine wpAny_bind (wpAny_typeOf hT ?_)
  dsimp only
  have et : (("tuple" : String) == "tuple") = true := by decide
  simp only [et, if_true, Bool.not_true, Bool.false_eq_true, if_false]
  show wpAny _ _ (pure true >>= _) _ _ s
  refine wpAny_bind (wpAny_pure ?_)
  simp only [Bool.not_true, Bool.false_eq_true, if_false]
  refine wpAny_bind (wpAny_seqItems ho hd ?_)
  dsimp only
  refine wpAny_bind ?_
  rw [← Array.forIn_toList]
  refine wpAny_forIn_list _ (fun rest r s' => r.1 = none ∧ s' = s ∧ ∀ v ∈ rest, (∀ n, ofAClassStatement n v = pure false) ∧ ∀ n, hashByValue n v = pure true) _ (fun v rest r s' hr => ?_) (fun r s' hr => ?_) _ _ ⟨rfl, rfl, itemsN hi⟩
  · obtain ⟨r1, rfl, all⟩ := hr
    rw [(all v List.mem_cons_self).1]
    refine wpAny_bind (wpAny_pure ?_)
    simp only [Bool.false_eq_true, if_false]
    exact wpAny_pure ⟨rfl, rfl, fun u hu => all u (List.mem_cons_of_mem _ hu)⟩
  · obtain ⟨r1, r2⟩ := r
    obtain ⟨h1, rfl, _⟩ := hr
    cases (show r1 = none from h1)
    exact wpAny_pure q
theorem byVal2 {k : Sp2} {b : Addr} {Q : Bool → Shared → Prop} (hb : At2 P w s.heap k b) (q : Q true s) : wpAny (model P w) A (hashByValue 8 (.ref b)) Q E s := by
  have hT := hb.typeIs
  obtain ⟨o, its, n, ho, _, hd, hi⟩ := hb
  unfold hashByValue
  refine wpAny_bind (wpAny_specialOf hT PySem.F.slot_tuple_hash.lookup ?_)
  show wpAny _ _ (seqItems? (Value.ref b) >>= _) _ _ _
  refine wpAny_bind (wpAny_seqItems ho hd (wpAny_bind ?_))
  rw [← Array.forIn_toList]
  refine wpAny_forIn_list _ (fun rest r s' => r.1 = none ∧ s' = s ∧ ∀ v ∈ rest, (∀ n, ofAClassStatement n v = pure false) ∧ ∀ n, hashByValue n v = pure true) _ (fun v rest r s' hr => ?_) (fun r s' hr => ?_) _ _ ⟨rfl, rfl, itemsN hi⟩
  · obtain ⟨r1, rfl, all⟩ := hr
    rw [(all v List.mem_cons_self).2]
    refine wpAny_bind (wpAny_pure ?_)
    simp only [Bool.not_true, Bool.false_eq_true, if_false]
    exact wpAny_pure ⟨rfl, rfl, fun u hu => all u (List.mem_cons_of_mem _ hu)⟩
  · obtain ⟨r1, r2⟩ := r
    obtain ⟨h1, rfl, _⟩ := hr
    cases (show r1 = none from h1)
    exact wpAny_pure q
/-- asking among spots shows nothing -/
theorem unseen2 {k : Sp2} {b : Addr} {Q : Bool → Shared → Prop} (hb : At2 P w s.heap k b) {ys : List Value} (hy : ∀ y ∈ ys, ∃ k' c, y = Value.ref c ∧ At2 P w s.heap k' c) (q : Q false s) : wpAny (model P w) A (searchCouldBeSeen (.ref b) ys) Q E s := by
  unfold searchCouldBeSeen
  refine wpAny_bind (wpAny_forIn_list _ (fun rest r s' => r.1 = none ∧ s' = s ∧ ∀ y ∈ rest, ∃ k' c, y = Value.ref c ∧ At2 P w s.heap k' c) _ (fun v rest r s' hr => ?_) (fun r s' hr => ?_) _ _ ⟨rfl, rfl, hy⟩)
  · obtain ⟨r1, rfl, all⟩ := hr
    obtain ⟨k', c, rfl, hc⟩ := all v List.mem_cons_self
    have more : ∀ y ∈ rest, ∃ k' c, y = Value.ref c ∧ At2 P w s'.heap k' c := fun u hu => all u (List.mem_cons_of_mem _ hu)
    dsimp only
    by_cases hv : (b == c || (carriedByValue (.ref b) && carriedByValue (.ref c))) = true
    · exact wp_if_pos hv (wpAny_pure ⟨rfl, rfl, more⟩)
    · refine wp_if_neg hv (wpAny_bind (wpAny_eqIsQuiet_tuple hb ?_))
      simp only [Bool.not_true, Bool.false_eq_true, if_false]
      refine wpAny_bind (wpAny_eqIsQuiet_tuple hc ?_)
      simp only [Bool.not_true, Bool.false_eq_true, if_false]
      refine wpAny_bind (noClass2 hb ?_)
      simp only [Bool.false_eq_true, if_false]
      refine wpAny_bind (noClass2 hc ?_)
      simp only [Bool.false_eq_true, if_false]
      exact wpAny_pure ⟨rfl, rfl, more⟩
  · obtain ⟨r1, r2⟩ := r
    obtain ⟨h1, rfl, _⟩ := hr
    cases (show r1 = none from h1)
    exact wpAny_pure q
/-! ### the set -/
abbrev Ent := Addr × Sp2
def rowE (hf : Sp2 → Int) (p : Ent) : Int × Value := (hf p.2, Value.ref p.1)
variable {hf : Sp2 → Int}
structure SR (P : Program) (w : World) (hf : Sp2 → Int) (h : Heap) (a : Addr) (L : List Ent) (es : Array (Int × Value)) (ep : Nat) (t : SetTable) : Prop where
  obj : ∃ o, h.get? a = some o ∧ o.ExactSet ∧ o.data = .set es ep t
  rows : es.toList = L.map (rowE hf)
  tab : TabOk t (L.map fun p => hf p.2)
  nd : (L.map (·.2)).Nodup
  ats : ∀ p ∈ L, At2 P w h p.2 p.1
  pl : t.plain = true
  led : w.params.followText "set-order" = true ∨ t.led = true
  room : L.length * 5 < t.mask * 3
  few : L.length ≤ 76
variable {a : Addr} {L : List Ent} {es : Array (Int × Value)} {ep : Nat} {t : SetTable}
theorem rows_size (h : es.toList = L.map (rowE hf)) : es.size = L.length := by
  rw [← Array.length_toList, h, List.length_map]
theorem rows_at (h : es.toList = L.map (rowE hf)) {i : Nat} {p : Ent} (hp : L[i]? = some p) : es[i]? = some (hf p.2, Value.ref p.1) := by
  rw [← Array.getElem?_toList, h, List.getElem?_map, hp]
  rfl
theorem fits_of {n m : Nat} (h1 : t.place.size = n) (h2 : t.dummies = #[]) (h3 : n = m) (h4 : m ≤ t.mask) : t.fits m = true := by
  unfold SetTable.fits SetTable.fill
  rw [h2, Bool.and_eq_true, beq_iff_eq, decide_eq_true_eq]
  exact ⟨h1.trans h3, by rw [h1, h3]; exact h4⟩
theorem SR.fits (R : SR P w hf s.heap a L es ep t) : t.fits es.size = true := by
  have h1 := R.tab.sz
  rw [List.length_map] at h1
  have h2 := rows_size R.rows
  have h3 := R.room
  exact fits_of h1 R.tab.dm h2.symm (by omega)
theorem no_gave (h : MaskOk t.mask) : ¬ t.gaveWay = true := by
  unfold SetTable.gaveWay
  rw [mask_odd h]
  decide
abbrev pb (m : Nat) (h : Int) : SetTable.Probe := runAt m (SetTable.bits h % (m + 1)) (SetTable.bits h)
theorem nth_dummy (m : Nat) : ∀ (n : Nat) (p : SetTable.Probe), p.dummy = none → (nth m p n).dummy = none
  | 0, _, h => h
  | n + 1, p, h => nth_dummy m n (adv m p) (by unfold adv; split <;> exact h)
/-- the search for the spot k, from the c-th step of its way on, where K is the first empty place -/
theorem seek_from (R : SR P w hf s.heap a L es ep t) {x : Addr} {k : Sp2} {ad : Bool} (hx : At2 P w s.heap k x) (hu : A.units < cLine) {K : Nat} (hKf : K < 10 * SetTable.turns t.mask)
    (hK : way t.mask (hf k) K ∉ t.place.toList) (hKb : ∀ c, c < K → way t.mask (hf k) c ∈ t.place.toList) {Q : SetFound → Shared → Prop}
    (yes : k ∈ L.map (·.2) → ∀ o : Option Nat, (ad = false → o.isSome = true) → Q (.there o) s) (no : k ∉ L.map (·.2) → Q (.free (way t.mask (hf k) K) false) s) :
    ∀ (f c : Nat) (st : Option SetTable.Probe), st.getD (t.probeStart (hf k)) = nth t.mask (pb t.mask (hf k)) c → c ≤ K → K - c < f →
      (∀ (i : Nat) p, L[i]? = some p → p.2 = k → ∃ c', c ≤ c' ∧ c' < K ∧ t.place.toList[i]? = some (way t.mask (hf k) c')) → wpAny (model P w) A (setSearchFrom a (.ref x) (hf k) ad f st) Q E s := by
  intro f
  induction f with
  | zero => exact fun _ _ _ _ hfu _ => absurd hfu (Nat.not_lt_zero _)
  | succ f ih =>
    intro c st hst hc hfu hre
    obtain ⟨o, ho, hex, hd⟩ := R.obj
    rw [setSearchFrom_succ]
    refine wpAny_bind (wpAny_setState_of ho hd R.fits ?_)
    dsimp only
    refine wp_if_neg (no_gave R.tab.mok) ?_
    try refine wpAny_bind (wpAny_pure ?_)
    have sh : ∀ q, nth t.mask (nth t.mask (pb t.mask (hf k)) c) q = nth t.mask (pb t.mask (hf k)) (c + q) := fun q => (nth_add t.mask c _ q).symm
    have ej : ∀ q, (nth t.mask (nth t.mask (pb t.mask (hf k)) c) q).j = way t.mask (hf k) (c + q) := fun q => congrArg SetTable.Probe.j (sh q)
    have eK : c + (K - c) = K := by omega
    have hash_at : ∀ (i : Nat) p, L[i]? = some p → (es[i]?.map (·.1)).getD 0 = hf p.2 := fun i p hp => by rw [rows_at R.rows hp]; rfl
    rcases go_spec t R.tab.ris R.tab.dm (fun i => (es[i]?.map (·.1)).getD 0) (hf k) (10 * SetTable.turns t.mask) (K - c) _ (nth_dummy t.mask c _ rfl) (by omega)
      (fun q hq => by rw [ej]; exact hKb (c + q) (by omega)) (by rw [ej, eK]; exact hK) with ⟨q, i, hq, hi, hh, hno, hpr⟩ | ⟨hno, hpr⟩
    · rw [show t.probe (fun i => (es[i]?.map (·.1)).getD 0) (hf k) (st.getD (t.probeStart (hf k))) = some (.candidate (way t.mask (hf k) (c + q)) i (nth t.mask (pb t.mask (hf k)) (c + (q + 1)))) by rw [hst, ← ej, ← sh]; exact hpr]
      dsimp only
      rw [ej] at hi
      have hil : i < L.length := by
        have h1 : i < t.place.toList.length := (List.getElem?_eq_some_iff.mp hi).1
        have h2 := R.tab.sz
        rw [List.length_map] at h2
        rw [Array.length_toList] at h1
        omega
      obtain ⟨p, hp⟩ : ∃ p, L[i]? = some p := ⟨_, List.getElem?_eq_getElem hil⟩
      have hmem : p ∈ L := List.mem_of_getElem? hp
      have hsl : t.slot (way t.mask (hf k) (c + q)) = .live i := slot_live R.tab.ris hi
      have rest : wpAny (model P w) A (searchRest a (.ref x) (hf k) ad f es t (way t.mask (hf k) (c + q)) i (nth t.mask (pb t.mask (hf k)) (c + (q + 1)))) Q E s := by
        unfold searchRest
        rw [rows_at R.rows hp]
        dsimp only
        refine wpAny_bind (wpAny_holding (wpAny_eqBool_tuple hu (R.ats p hmem) hx ?_))
        refine wpAny_bind (wpAny_setState_of ho hd R.fits ?_)
        dsimp only
        rw [at2_dec]
        by_cases hpk : p.2 = k
        · have hin : k ∈ L.map (·.2) := List.mem_map.mpr ⟨p, hmem, hpk⟩
          cases ad with
          | true => exact wp_if_pos (by simp [hpk]) (wpAny_pure (yes hin none fun z => nomatch z))
          | false =>
            refine wp_if_neg (by simp) ?_
            try refine wpAny_bind (wpAny_pure ?_)
            rw [sameMem]
            dsimp only
            simp only [if_true, hsl, rows_at R.rows hp]
            refine wpAny_bind (wpAny_isSame_ref_self (wpAny_bind (wpAny_pure ?_)))
            simp only [if_true]
            exact wp_if_pos (by simp [hpk]) (wpAny_pure (yes hin (some i) fun _ => rfl))
        · refine wp_if_neg (by simp [hpk]) ?_
          try refine wpAny_bind (wpAny_pure ?_)
          rw [sameMem]
          dsimp only
          simp only [if_true, hsl, rows_at R.rows hp]
          refine wpAny_bind (wpAny_isSame_ref_self (wpAny_bind (wpAny_pure ?_)))
          simp only [if_true]
          refine wp_if_neg (by simp [hpk]) (ih (c + (q + 1)) _ rfl (by omega) (by omega) fun i0 p0 h0 hk0 => ?_)
          obtain ⟨c', a1, a2, a3⟩ := hre i0 p0 h0 hk0
          refine ⟨c', ?_, a2, a3⟩
          rcases Nat.lt_trichotomy c' (c + q) with z | z | z
          · exact absurd ((hash_at i0 p0 h0).trans (congrArg hf hk0)) (hno (c' - c) i0 (by omega) (by rw [ej, show c + (c' - c) = c' by omega]; exact a3))
          · exfalso
            rw [z] at a3
            have s0 := slot_live R.tab.ris a3
            rw [hsl] at s0
            injection s0 with s0
            rw [← s0, hp] at h0
            exact hpk ((congrArg Prod.snd (Option.some.inj h0)).trans hk0)
          · omega
      by_cases hl : t.led = true
      · refine wp_if_neg (by simp [hl]) ?_
        try refine wpAny_bind (wpAny_pure ?_)
        exact rest
      · refine wp_if_pos (by simp [hl]) (wpAny_bind (unseen2 hx (fun y hy => ?_) ?_))
        · obtain ⟨e, he, ee⟩ := List.mem_map.mp hy
          have he1 : e ∈ es ∧ e.1 = hf k := by simpa using he
          have he2 : e ∈ es.toList := by simpa using he1.1
          rw [R.rows] at he2
          obtain ⟨p2, hp2, e2⟩ := List.mem_map.mp he2
          exact ⟨p2.2, p2.1, by rw [← ee, ← e2]; rfl, R.ats p2 hp2⟩
        · refine wp_if_neg (by decide) ?_
          try refine wpAny_bind (wpAny_pure ?_)
          exact rest
    · rw [show t.probe (fun i => (es[i]?.map (·.1)).getD 0) (hf k) (st.getD (t.probeStart (hf k))) = some (.empty (way t.mask (hf k) K) none) by rw [hst, show way t.mask (hf k) K = (nth t.mask (nth t.mask (pb t.mask (hf k)) c) (K - c)).j by rw [ej, eK]]; exact hpr]
      dsimp only
      refine wpAny_pure (no fun hm => ?_)
      obtain ⟨p0, h0, hk0⟩ := List.mem_map.mp hm
      obtain ⟨i0, hi0, e0⟩ := List.getElem_of_mem h0
      have h00 : L[i0]? = some p0 := by rw [List.getElem?_eq_getElem hi0, e0]
      obtain ⟨c', a1, a2, a3⟩ := hre i0 p0 h00 hk0
      exact hno (c' - c) i0 (by omega) (by rw [ej, show c + (c' - c) = c' by omega]; exact a3) ((hash_at i0 p0 h00).trans (congrArg hf hk0))
theorem seek (R : SR P w hf s.heap a L es ep t) {x : Addr} {k : Sp2} {ad : Bool} (hx : At2 P w s.heap k x) (hu : A.units < cLine) {Q : SetFound → Shared → Prop} (yes : k ∈ L.map (·.2) → ∀ o : Option Nat, (ad = false → o.isSome = true) → Q (.there o) s)
    (no : ∀ K, k ∉ L.map (·.2) → way t.mask (hf k) K ∉ t.place.toList → (∀ c, c < K → way t.mask (hf k) c ∈ t.place.toList) → Q (.free (way t.mask (hf k) K) false) s) : wpAny (model P w) A (setSearch a (.ref x) (hf k) ad) Q E s := by
  have hroom := R.room
  obtain ⟨K, hKf, hK, hKb⟩ := R.tab.first (by rw [List.length_map]; omega) (hf k)
  have hbig : K < 100000 := by
    have : 10 * SetTable.turns t.mask ≤ 1420 := by
      unfold SetTable.turns
      rcases R.tab.mok with e | e | e <;> omega
    omega
  unfold setSearch
  refine seek_from R hx hu hKf hK hKb yes (fun hn => no K hn hK hKb) 100000 0 none rfl (Nat.zero_le _) (by omega) fun i p hp hpk => ?_
  have hi : (L.map fun p => hf p.2)[i]? = some (hf k) := by rw [List.getElem?_map, hp, ← hpk]; rfl
  have hil : i < t.place.toList.length := by
    have h1 : i < L.length := (List.getElem?_eq_some_iff.mp hp).1
    have h2 := R.tab.sz
    rw [List.length_map] at h2
    rw [Array.length_toList]
    omega
  obtain ⟨c, hc, e⟩ := R.tab.before hK hi (List.getElem?_eq_getElem hil)
  exact ⟨c, Nat.zero_le _, hc, by rw [List.getElem?_eq_getElem hil, e]⟩
end
end Fl

set_option Elab.async false
set_option linter.all false
set_option maxRecDepth 100000
set_option maxHeartbeats 4000000
namespace Fl
open PySem PySem.Spec PyProof.Rows L2
section
variable {P : Program} {w : World} {A : Around} {E : Value → Shared → Prop} {s : Shared} {hf : Sp2 → Int} {a : Addr} {L : List Ent} {es : Array (Int × Value)} {ep : Nat} {t : SetTable}
theorem at2_other {h h' : Heap} {k : Sp2} {b : Addr} {o : Obj} (hb : At2 P w h k b) (ho : h.get? a = some o) (hd : o.data = .set es ep t) (hs : Heap.SameBut a h h') : At2 P w h' k b := by
  obtain ⟨o', its, n, ho', hc, hd', hi⟩ := hb
  have hne : b ≠ a := fun z => by
    rw [z, ho] at ho'
    rw [← Option.some.inj ho', hd] at hd'
    exact nomatch hd'
  exact ⟨o', its, n, (hs.2 b hne).trans ho', hc, hd', hi⟩
/-- the rows in another order -/
theorem reorder (hr : es.toList = L.map (rowE hf)) {ord : Array Nat} (hp : ord.toList.Perm (List.range L.length)) :
    ∃ L2 : List Ent, (ord.filterMap (es[·]?)).toList = L2.map (rowE hf) ∧ L2.Perm L ∧ (L2.map fun p => hf p.2) = ord.toList.map fun i => (es.map (·.1)).getD i 0 := by
  have key : ∀ l : List Nat, (∀ i ∈ l, i < L.length) → l.filterMap (fun i => es[i]?) = (l.filterMap fun i => L[i]?).map (rowE hf) ∧ ((l.filterMap fun i => L[i]?).map fun p => hf p.2) = l.map fun i => (es.map (·.1)).getD i 0 := by
    intro l
    induction l with
    | nil => exact fun _ => ⟨rfl, rfl⟩
    | cons i l ih =>
      intro hl
      obtain ⟨p, hp⟩ : ∃ p, L[i]? = some p := ⟨_, List.getElem?_eq_getElem (hl i List.mem_cons_self)⟩
      obtain ⟨e1, e2⟩ := ih fun j hj => hl j (List.mem_cons_of_mem _ hj)
      have e3 := rows_at hr hp
      have e4 : (es.map (·.1)).getD i 0 = hf p.2 := by
        have e5 : (es.map (·.1))[i]? = some (hf p.2) := by rw [Array.getElem?_map, e3]; rfl
        rw [Array.getD_eq_getD_getElem?, e5]
        rfl
      rw [List.filterMap_cons_some e3, List.filterMap_cons_some (f := fun i => L[i]?) hp, List.map_cons, List.map_cons, List.map_cons, e1, e2, e4]
      exact ⟨rfl, rfl⟩
  obtain ⟨e1, e2⟩ := key ord.toList fun i hi => List.mem_range.mp (hp.mem_iff.mp hi)
  refine ⟨_, by rw [Array.toList_filterMap]; exact e1, ?_, e2⟩
  have e3 : ∀ n, n ≤ L.length → (List.range n).filterMap (fun i => L[i]?) = L.take n := by
    intro n
    induction n with
    | zero => exact fun _ => rfl
    | succ n ih =>
      intro hn
      rw [List.range_succ, List.filterMap_append, ih (by omega), List.take_succ, List.getElem?_eq_getElem (show n < L.length by omega), List.filterMap_cons_some (List.getElem?_eq_getElem (show n < L.length by omega))]
      rfl
  have e4 := hp.filterMap (fun i => L[i]?)
  rw [e3 L.length (Nat.le_refl _), List.take_length] at e4
  exact e4
/-- the larger table -/
theorem relay2 {o : Obj} (ho : s.heap.get? a = some o) (hex : o.ExactSet) (hd : o.data = .set es ep t) (hr : es.toList = L.map (rowE hf)) (hsz : t.place.size = es.size) (hdm : t.dummies = #[]) (hfl : es.size ≤ t.mask) (nd : (L.map (·.2)).Nodup)
    (ats : ∀ p ∈ L, At2 P w s.heap p.2 p.1) (pl : t.plain = true) (ld : w.params.followText "set-order" = true ∨ t.led = true) (few : L.length ≤ 76) {wanted M : Nat} (hw : SetTable.sizeAbove wanted - 1 = M) (hM : MaskOk M) (hw2 : SetTable.sizeAbove wanted ≤ 128)
    (hn : L.length * 5 < M * 3) {Q : Unit → Shared → Prop} (hQ : ∀ h' L' es' ep' t', Heap.SameBut a s.heap h' → SR P w hf h' a L' es' ep' t' → L'.Perm L → Q () { s with heap := h' }) : wpAny (model P w) A (setRelay a wanted) Q E s := by
  have hsl := rows_size hr
  obtain ⟨t', ord, e, hp, T, em, el, ep', ed⟩ := relaid_ok t (hs := es.map (·.1)) (wanted := wanted) hw hM (by rw [Array.size_map, hsl]; omega)
  rw [Array.size_map, hsl] at hp
  obtain ⟨L2, r1, r2, r3⟩ := reorder hr hp
  rw [← r3] at T
  have hs2 : (ord.filterMap (es[·]?)).size = es.size := by rw [rows_size r1, r2.length_eq, hsl]
  rw [setRelay_eq]
  refine wpAny_bind (wpAny_setState_of ho hd (fits_of hsz hdm rfl hfl) ?_)
  dsimp only
  refine wp_if_neg (by rw [sizeLine_eq]; omega) ?_
  try refine wpAny_bind (wpAny_pure ?_)
  rw [e]
  dsimp only
  refine wpAny_bind (wp_if_neg (by rw [hs2]; simp) ?_)
  try refine wpAny_bind (wpAny_pure ?_)
  refine wpAny_pure ?_
  dsimp only
  have sb : Heap.SameBut a s.heap (s.heap.update a (Obj.putSet (ord.filterMap (es[·]?)) t')) := Heap.SameBut.update ..
  refine wpAny_storeSet_of ho hd (hQ _ L2 (ord.filterMap (es[·]?)) (ep + 1) t' sb ⟨⟨_, store_at ho hd, ⟨hex.1, hex.2.1, hex.2.2⟩, rfl⟩, r1, T, (r2.map (·.2)).nodup_iff.mpr nd, fun p hpm => at2_other (ats p (r2.mem_iff.mp hpm)) ho hd sb, by rw [ep']; exact pl, by rw [el]; exact ld, by rw [r2.length_eq, em]; exact hn, by rw [r2.length_eq]; exact few⟩ r2) (by rw [hs2, hsl, sizeLine_eq]; omega)
/-- adding a spot -/
theorem add2 (R : SR P w hf s.heap a L es ep t) {x : Addr} {k : Sp2} (hx : At2 P w s.heap k x) (hu : A.units < cLine) (few : L.length + 1 ≤ 76) {Q : Bool → Shared → Prop}
    (hQ : ∀ b h' L' es' ep' t', Heap.SameBut a s.heap h' → SR P w hf h' a L' es' ep' t' → (k ∈ L.map (·.2) → L' = L) → (k ∉ L.map (·.2) → L'.Perm ((x, k) :: L)) → Q b { s with heap := h' }) : wpAny (model P w) A (setAddHashed a (.ref x) (hf k)) Q E s := by
  obtain ⟨o, ho, hex, hd⟩ := R.obj
  have hsl := rows_size R.rows
  have hroom := R.room
  unfold setAddHashed
  refine wpAny_holding ?_
  rw [show (100000 : Nat) = 99999 + 1 from rfl, setAddHashedIn_succ]
  refine wpAny_bind (wpAny_setState_of ho hd R.fits ?_)
  dsimp only
  refine wp_if_neg (by simp [byScan, Value.scannable]) ?_
  try refine wpAny_bind (wpAny_pure ?_)
  refine wpAny_bind (seek R hx hu (fun hm o _ => ?_) fun K hm hK hb => ?_)
  · exact wpAny_pure (hQ false s.heap L es ep t (Heap.SameBut.refl a s.heap) R (fun _ => rfl) fun z => absurd hm z)
  dsimp only
  refine wpAny_bind (wpAny_setState_of ho hd R.fits ?_)
  dsimp only
  obtain ⟨q1, q2, q3, q4, q5, q6, q7, q8, q9⟩ := R.tab.put hK hb
  have hp1 : (t.put (way t.mask (hf k) K)).1.plain = true := by rw [q6]; exact R.pl
  generalize t.put (way t.mask (hf k) K) = pt at q1 q3 q4 q5 q6 q7 q8 q9 hp1 ⊢
  obtain ⟨t1, p⟩ := pt
  dsimp only at q1 q3 q4 q5 q6 q7 q8 q9 hp1 ⊢
  subst q1
  first
    | (refine wpAny_bind ?_; refine wp_if_pos hp1 ?_; refine byVal2 hx ?_)
    | refine wp_if_pos hp1 (wpAny_bind (byVal2 hx ?_))
  simp only [if_true]
  generalize SetTable.below t.place (way t.mask (hf k) K) = p at q2 q3 ⊢
  have hin : (SetTable.insertAt es p (hf k, Value.ref x)).toList = (L.take p ++ (x, k) :: L.drop p).map (rowE hf) := by
    rw [SetTable.toList_insertAt, R.rows, List.map_append, List.map_cons, List.map_take, List.map_drop]
    rfl
  have pm : (L.take p ++ (x, k) :: L.drop p).Perm ((x, k) :: L) := put_perm L p (x, k)
  have hhs : (L.take p ++ (x, k) :: L.drop p).map (fun p => hf p.2) = (L.map fun p => hf p.2).take p ++ hf k :: (L.map fun p => hf p.2).drop p := by rw [List.map_append, List.map_cons, List.map_take, List.map_drop]
  rw [← hhs] at q3
  generalize SetTable.insertAt es p (hf k, Value.ref x) = es1 at hin ⊢
  generalize L.take p ++ (x, k) :: L.drop p = L1 at pm q3 hin
  have hlen : L1.length = L.length + 1 := pm.length_eq
  have nd1 : (L1.map (·.2)).Nodup := (pm.map (·.2)).nodup_iff.mpr (by rw [List.map_cons]; exact List.nodup_cons.mpr ⟨hm, R.nd⟩)
  have hes : es1.size = L.length + 1 := by rw [rows_size hin, hlen]
  refine wpAny_bind (wpAny_storeSet_of ho hd ?_ (by rw [hes, sizeLine_eq]; omega))
  have sb : Heap.SameBut a s.heap (s.heap.update a (Obj.putSet es1 t1)) := Heap.SameBut.update ..
  have ho1 := store_at (es' := es1) (t' := t1) ho hd
  generalize s.heap.update a (Obj.putSet es1 t1) = h1 at sb ho1 ⊢
  have ats1 : ∀ p ∈ L1, At2 P w h1 p.2 p.1 := fun p hp => by
    rcases List.mem_cons.mp (pm.mem_iff.mp hp) with e | hp
    · rw [e]
      exact at2_other hx ho hd sb
    · exact at2_other (R.ats p hp) ho hd sb
  have ld1 : w.params.followText "set-order" = true ∨ t1.led = true := by rw [q5]; exact R.led
  by_cases hful : t1.tooFull = true
  · have hfull : (L.length + 1) * 5 ≥ t1.mask * 3 := by
      have h := hful
      unfold SetTable.tooFull at h
      rw [decide_eq_true_eq, q9, List.length_map] at h
      exact h
    have two : (t.mask = 7 ∧ L.length = 4) ∨ (t.mask = 31 ∧ L.length = 18) := by
      rcases R.tab.mok with e | e | e
      · rw [q4, e] at hfull
        rw [e] at hroom
        exact .inl ⟨e, by omega⟩
      · rw [q4, e] at hfull
        rw [e] at hroom
        exact .inr ⟨e, by omega⟩
      · exfalso
        rw [q4, e] at hfull
        omega
    have hsz1 : t1.place.size = es1.size := by
      have h := q3.sz
      rw [List.length_map, hlen] at h
      rw [h, hes]
    have go : ∀ M, SetTable.sizeAbove (SetTable.grown (L.length + 1)) - 1 = M → MaskOk M → SetTable.sizeAbove (SetTable.grown (L.length + 1)) ≤ 128 → (L.length + 1) * 5 < M * 3 →
        wpAny (model P w) A (setRelay a (SetTable.grown (L.length + 1))) (fun _ s' => wpAny (model P w) A (pure true) Q E s') E { s with heap := h1 } := fun M c1 c2 c3 c4 =>
      relay2 (s := { s with heap := h1 }) ho1 ⟨hex.1, hex.2.1, hex.2.2⟩ rfl hin hsz1 q3.dm (by rw [hes, q4]; rcases two with ⟨e, e2⟩ | ⟨e, e2⟩ <;> omega) nd1 ats1 hp1 ld1 (by rw [hlen]; exact few) c1 c2 c3 (by rw [hlen]; exact c4)
        fun h2 L2 es2 ep2 t2 sb2 R2 pm2 => wpAny_pure (hQ true h2 L2 es2 ep2 t2 (sb.trans sb2) R2 (fun z => absurd z hm) fun _ => pm2.trans pm)
    rw [hsl]
    have fin : wpAny (model P w) A (setRelay a (SetTable.grown (L.length + 1))) (fun _ s' => wpAny (model P w) A (pure true) Q E s') E { s with heap := h1 } := by
      rcases two with ⟨_, e2⟩ | ⟨_, e2⟩
      · exact go 31 (by rw [e2, size_20]) (.inr (.inl rfl)) (by rw [e2, size_20]; decide) (by omega)
      · exact go 127 (by rw [e2, size_76]) (.inr (.inr rfl)) (by rw [e2, size_76]; decide) (by omega)
    first
      | exact wpAny_bind (wp_if_pos (by simp [hful]) fin)
      | exact wp_if_pos (by simp [hful]) (wpAny_bind fin)
  · have lim : L1.length * 5 < t1.mask * 3 := by
      have h := hful
      unfold SetTable.tooFull at h
      rw [decide_eq_true_eq, q9, List.length_map] at h
      rw [hlen]
      omega
    have fin := hQ true h1 L1 es1 (ep + 1) t1 sb ⟨⟨_, ho1, ⟨hex.1, hex.2.1, hex.2.2⟩, rfl⟩, hin, q3, nd1, ats1, hp1, ld1, lim, by rw [hlen]; exact few⟩ (fun z => absurd z hm) fun _ => pm
    first
      | exact wp_if_neg (by simp [hful]) (wpAny_pure fin)
      | exact wpAny_bind (wp_if_neg (by simp [hful]) (wpAny_pure (wpAny_pure fin)))
/-- is it in the set? -/
theorem find2 (R : SR P w hf s.heap a L es ep t) {x : Addr} {k : Sp2} (hx : At2 P w s.heap k x) (hu : A.units < cLine) {Q : Option Nat → Shared → Prop} (q : ∀ o : Option Nat, o.isSome = decide (k ∈ L.map (·.2)) → Q o s) : wpAny (model P w) A (setFind a (.ref x) (hf k)) Q E s := by
  obtain ⟨o, ho, hex, hd⟩ := R.obj
  unfold setFind
  rw [show (100000 : Nat) = 99999 + 1 from rfl]
  unfold setFindIn
  refine wpAny_bind (wpAny_setState_of ho hd R.fits ?_)
  dsimp only
  refine wp_if_neg (by simp [byScan, Value.scannable]) ?_
  try refine wpAny_bind (wpAny_pure ?_)
  refine wpAny_bind (seek R hx hu (fun hm o ho => ?_) fun K hm _ _ => ?_)
  · exact wpAny_pure (q o (by rw [ho rfl, decide_eq_true hm]))
  · exact wpAny_pure (q none (by rw [decide_eq_false hm]; rfl))
end
end Fl

set_option Elab.async false
set_option linter.all false
set_option maxRecDepth 100000
set_option maxHeartbeats 4000000
namespace Fl
open PySem PySem.Spec PyProof.Rows L2
section
variable {P : Program} {w : World} {A : Around} {E : Value → Shared → Prop} {s : Shared} {a : Addr} {L : List Ent} {es : Array (Int × Value)} {ep : Nat} {t : SetTable}
theorem set_ty {hf : Sp2 → Int} (R : SR P w hf s.heap a L es ep t) : s.TypeIs (.ref a) "set" := by
  obtain ⟨o, ho, hex, _⟩ := R.obj
  exact ⟨o, ho, hex.1⟩
theorem hash2 {k : Sp2} {x : Addr} {Q : Int → Shared → Prop} (hx : At2 P w s.heap k x) (hu : A.units < cLine) (q : Q (hsp P w k) { s with toks := s.toks + 3 }) : wpAny (model P w) A (pyHash (.ref x)) Q E s := wpAny_pyHash_tuple hu hx q
/-- what stands in and not in is asked of -/
theorem has2 (R : SR P w (hsp P w) s.heap a L es ep t) {x : Addr} {k : Sp2} (hx : At2 P w s.heap k x) (hu : A.units + 64 < cLine) {Q : Bool → Shared → Prop} (q : Q (decide (k ∈ L.map (·.2))) { s with toks := s.toks + 3 }) : wpAny (model P w) A (contains (.ref a) (.ref x)) Q E s := by
  unfold contains
  try with_reducible refine wpAny_holding ?_
  have hT := set_ty R
  refine wpAny_bind (wpAny_specialOf hT PySem.F.slot_set_contains.lookup ?_)
  show wpAny _ _ (if (some (Value.builtin "set.__contains__") == some Value.none) = true then _ else _) Q E s
  rw [if_neg (by rw [beq_builtin_none]; exact Bool.false_ne_true)]
  refine wpAny_bind (wpAny_callSpecialUnlessNone?_slot (name := Str.ofString "__contains__") hT PySem.F.slot_set_contains (wpAny_call_entry PySem.F.slot_set_contains hT entry_set_contains ?_ (PySem.F.args_set_contains_2 _ _)))
  unfold Builtin.«frozenset.__contains__» Builtin.Frozenset.oneOther
  simp only [List.isEmpty_nil, bind_assoc]
  unfold Builtin.Frozenset.addrOf Builtin.Frozenset.withSetAsKey setContains
  refine wpAny_bind (wpAny_pure ?_)
  try dsimp only
  refine wpAny_bind (wpAny_pure ?_)
  try dsimp only
  refine wpAny_bind (wpAny_tryCatch (wpAny_holding (wpAny_bind (hash2 hx ?_ ?_))))
  · show A.units + 1 < cLine
    omega
  refine wpAny_bind (find2 (s := { s with toks := s.toks + 3 }) ⟨R.obj, R.rows, R.tab, R.nd, R.ats, R.pl, R.led, R.room, R.few⟩ hx ?_ fun o ho => ?_)
  · show A.units + 1 < cLine
    omega
  refine wpAny_pure ?_
  show wpAny _ _ (ret (Value.bool o.isSome)) _ _ _
  rw [ho]
  exact wpAny_pure ⟨_, rfl, wpAny_truthy_bool q⟩
/-- set.add -/
theorem callAdd2 (R : SR P w (hsp P w) s.heap a L es ep t) {x : Addr} {k : Sp2} (hx : At2 P w s.heap k x) (hu : A.units + 64 < cLine) (few : L.length + 1 ≤ 76) {Q : Value → Shared → Prop}
    (q : ∀ h' L' es' ep' t', Heap.SameBut a s.heap h' → SR P w (hsp P w) h' a L' es' ep' t' → (k ∈ L.map (·.2) → L' = L) → (k ∉ L.map (·.2) → L'.Perm ((x, k) :: L)) → Q .none { s with heap := h', toks := s.toks + 3 }) :
    wpAny (model P w) A (call (.builtin "set.add") [.ref a, .ref x]) Q E s := by
  refine wpAny_call_entry PySem.F.slot_set_add (set_ty R) PySem.F.entry_set_add ?_ (PySem.F.args_set_add_2 _ _)
  unfold Builtin.«set.add» Builtin.Frozenset.oneOther
  simp only [List.isEmpty_nil, bind_assoc]
  unfold Builtin.Frozenset.addrOf setAdd
  refine wpAny_bind (wpAny_pure ?_)
  try dsimp only
  refine wpAny_bind (wpAny_pure ?_)
  try dsimp only
  refine wpAny_bind (wpAny_holding (wpAny_bind (hash2 hx ?_ ?_)))
  · show A.units + 1 < cLine
    omega
  refine add2 (s := { s with toks := s.toks + 3 }) ⟨R.obj, R.rows, R.tab, R.nd, R.ats, R.pl, R.led, R.room, R.few⟩ hx (by show A.units + 1 < cLine; omega) few fun b h' L' es' ep' t' sb R' c1 c2 => ?_
  exact wpAny_pure ⟨_, rfl, q h' L' es' ep' t' sb R' c1 c2⟩
end
/-! ### as a tracked object -/
structure S0 (P : Program) (w : World) (h : Heap) (a : Addr) (L : List Ent) : Prop where
  ex : ∃ (es : Array (Int × Value)) (ep : Nat) (t : SetTable), (∃ o, h.get? a = some o ∧ o.ExactSet ∧ o.data = .set es ep t) ∧ es.toList = L.map (rowE (hsp P w)) ∧ TabOk t (L.map fun p => hsp P w p.2) ∧ (L.map (·.2)).Nodup ∧ t.plain = true ∧
    (w.params.followText "set-order" = true ∨ t.led = true) ∧ L.length * 5 < t.mask * 3 ∧ L.length ≤ 76
def SO (P : Program) (w : World) (a : Addr) (L : List Ent) : HO := .ext fun h => S0 P w h a L
section
variable {P : Program} {w : World} {H : Hp} {h : Heap} {a : Addr} {L : List Ent}
theorem SR.s0 {es : Array (Int × Value)} {ep : Nat} {t : SetTable} (R : SR P w (hsp P w) h a L es ep t) : S0 P w h a L := ⟨es, ep, t, R.obj, R.rows, R.tab, R.nd, R.pl, R.led, R.room, R.few⟩
theorem S0.sr (R : S0 P w h a L) (ht : ∀ p ∈ L, At2 P w h p.2 p.1) : ∃ es ep t, SR P w (hsp P w) h a L es ep t := by
  obtain ⟨es, ep, t, h1, h2, h3, h4, h5, h6, h7, h8⟩ := R.ex
  exact ⟨es, ep, t, h1, h2, h3, h4, ht, h5, h6, h7, h8⟩
theorem so_new (R : S0 P w h a L) : ObjOk P w H h a (SO P w a L) := by
  have ⟨es, ep, t, ⟨o, ho, r⟩, q⟩ := R.ex
  refine ⟨R, ⟨o, ho⟩, fun h1 h2 p k => ?_⟩
  have ⟨es', ep', t', ⟨o', ho', r'⟩, q'⟩ := S0.ex p
  exact ⟨es', ep', t', ⟨o', k o' ho', r'⟩, q'⟩
end
section
variable {X : Cx}
theorem so_get {pins : List (Addr × Obj)} {σ : L2.St} {H : Hp} {s : Shared} {a : Addr} {L : List Ent} (I : Inv X pins σ H s) (ha : H a = some (SO X.prog X.w a L)) : S0 X.prog X.w s.heap a L := (I.hok a _ ha).1
theorem at2_of {pins : List (Addr × Obj)} {σ : L2.St} {H : Hp} {s : Shared} {b : Addr} {k : Sp2} (I : Inv X pins σ H s) (h : SqT X.K H b [.int k.1, .bl k.2]) : At2 X.prog X.w s.heap k b := by
  obtain ⟨its, r, ⟨o, ho, hc, n, hd⟩, _⟩ := I.tuple h
  refine ⟨o, its.toArray, n, ho, hc, hd, ?_⟩
  rw [List.toList_toArray]
  cases r with
  | cons r1 r2 =>
    cases r2 with
    | cons r2 r3 =>
      cases r3
      obtain ⟨tk, rfl⟩ := r1
      cases r2
      exact .cons (beq_self_eq_true _) (.cons (beq_self_eq_true _) .nil)
def rIn2 (K : PySem.W.Frag) (P : Program) (w : World) (neg : Bool) : R2 := fun x y H Q => ∃ (b a : Addr) (k : Sp2) (L : List Ent), x = V.ref b ∧ SqT K H b [.int k.1, .bl k.2] ∧ y = V.ref a ∧ H a = some (SO P w a L) ∧ (∀ p ∈ L, SqT K H p.1 [.int p.2.1, .bl p.2.2]) ∧
  Q (.bl (if neg then !decide (k ∈ L.map (·.2)) else decide (k ∈ L.map (·.2)))) H
theorem or_in2 (hu : X.A.units + 64 < cLine) : OpR X (compareOp .In) (rIn2 X.K X.prog X.w false) := by
  intro pins s σ H x y v u Q I rx ry h
  obtain ⟨b, a, k, L, rfl, hb, rfl, ha, hL, q⟩ := h
  cases rx
  cases ry
  obtain ⟨es, ep, t, R⟩ := (so_get I ha).sr fun p hp => at2_of I (hL p hp)
  show wpAny _ _ (contains (.ref a) (.ref b) >>= fun z => (pure (Value.bool z) : Sem Value)) _ _ s
  exact wpAny_bind (has2 R (at2_of I hb) hu (wpAny_pure ⟨.bl _, H, I.tok _, rfl, q⟩))
theorem or_ni2 (hu : X.A.units + 64 < cLine) : OpR X (compareOp .NotIn) (rIn2 X.K X.prog X.w true) := by
  intro pins s σ H x y v u Q I rx ry h
  obtain ⟨b, a, k, L, rfl, hb, rfl, ha, hL, q⟩ := h
  cases rx
  cases ry
  obtain ⟨es, ep, t, R⟩ := (so_get I ha).sr fun p hp => at2_of I (hL p hp)
  show wpAny _ _ (contains (.ref a) (.ref b) >>= fun z => (pure (Value.bool (!z)) : Sem Value)) _ _ s
  exact wpAny_bind (has2 R (at2_of I hb) hu (wpAny_pure ⟨.bl _, H, I.tok _, rfl, q⟩))
def rNew2 (P : Program) (w : World) : List V → Hp → VK → Prop := fun xs H Q => xs = [] ∧ ∀ p, H p = none → Q (.ref p) (upd H p (SO P w p []))
theorem cr_new2 : CallR X (.type "set") (rNew2 X.prog X.w) := by
  intro pins s σ H xs us Q I r h
  obtain ⟨rfl, q⟩ := h
  cases r
  refine setR_new fun _ => ?_
  have new : S0 X.prog X.w (s.heap.push { cls := .type "set", dict := none, data := .set #[] 0 (.fresh 0 0 (!X.w.params.followText "set-order")) }) s.heap.objs.size [] := by
    refine ⟨#[], 0, _, ⟨_, Heap.get?_push_size _ rfl, ⟨rfl, rfl, rfl⟩, rfl⟩, rfl, ⟨List.Pairwise.nil, rfl, rfl, .inl rfl, fun x hx => (by cases hx), fun i h j hi => (by simp at hi)⟩, List.nodup_nil, rfl, ?_, (show 0 * 5 < 7 * 3 from by decide), Nat.zero_le _⟩
    show _ ∨ (!X.w.params.followText "set-order") = true
    cases X.w.params.followText "set-order"
    · exact .inr rfl
    · exact .inl rfl
  exact ⟨.ref _, upd H s.heap.objs.size (SO X.prog X.w s.heap.objs.size []), I.laid (t' := s.toks) (fun b u e => Heap.get?_push_of_some _ e) (Nat.le_refl _) (so_new new), rfl, q _ (I.hok.fresh (Nat.le_refl _))⟩
def rAdd2 (K : PySem.W.Frag) (P : Program) (w : World) : V → List V → Hp → VK → Prop := fun x xs H Q => ∃ (a b : Addr) (k : Sp2) (L : List Ent), x = V.ref a ∧ xs = [V.ref b] ∧ H a = some (SO P w a L) ∧ SqT K H b [.int k.1, .bl k.2] ∧ (∀ p ∈ L, SqT K H p.1 [.int p.2.1, .bl p.2.2]) ∧ L.length + 1 ≤ 76 ∧
  k ∉ L.map (·.2) ∧ ∀ L' : List Ent, L'.Perm ((b, k) :: L) → Q .non (upd H a (SO P w a L'))
theorem mt_add2 (hu : X.A.units + 64 < cLine) : MtR X "set.add" (rAdd2 X.K X.prog X.w) := by
  intro pins s σ H x xs v us Q I rx rxs h
  obtain ⟨a, b, k, L, rfl, rfl, ha, hb, hL, few, hn, q⟩ := h
  cases rx
  cases rxs with
  | cons ry rt =>
    cases rt
    cases ry
    obtain ⟨es, ep, t, R⟩ := (so_get I ha).sr fun p hp => at2_of I (hL p hp)
    refine callAdd2 R (at2_of I hb) hu few fun h' L' es' ep' t' sb R' _ c2 => ?_
    obtain ⟨o, ho, _⟩ := R'.obj
    exact ⟨.non, upd H a (SO X.prog X.w a L'), I.write (e := a) (t' := s.toks + 3) (by rw [ha]; trivial) (.inl rfl) (fun b u hb hu => (sb.2 b hb).trans hu) ⟨o, ho⟩ (so_new R'.s0), rfl, q L' (c2 hn)⟩
end
section
variable [c : Ctx] {X : Cx} {e a b o : Expr} {Γ : Gm} {S : HS} {pos : Pos} {p : Addr} {xs : List Sp2} {x : Sp2} {D : Ends} {rest : List Stmt}
/-- the set of these spots at p, which may change -/
def MS (S : HS) (p : Addr) (xs : List Sp2) : Prop := S.G p = none ∧ ∃ L : List Ent, S.H p = some (SO PP c.w p L) ∧ (∀ q ∈ L, S.G q.1 = some (.tup [.int q.2.1, .bl q.2.2])) ∧ (L.map (·.2)).Perm xs
theorem MS.there (h : MS S p xs) : S.H p ≠ none := by
  obtain ⟨_, L, h2, _⟩ := h
  rw [h2]
  exact fun z => nomatch z
theorem MS.up {S1 : HS} (h : MS S p xs) (g : Grow S S1) : MS S1 p xs := by
  obtain ⟨h1, L, h2, h3, h4⟩ := h
  exact ⟨g.n p (by rw [h2]; exact fun z => nomatch z) h1, L, g.h _ _ h2, fun q hq => g.g _ _ (h3 q hq), h4⟩
theorem MS.upd {S2 : HS} {q : Addr} (h : MS S p xs) (u : Upd S q S2) (ne : p ≠ q) : MS S2 p xs := by
  obtain ⟨h1, L, h2, h3, h4⟩ := h
  exact ⟨u.n p (by rw [h2]; exact fun z => nomatch z) h1, L, u.h p ne _ h2, fun q hq => u.g _ _ (h3 q hq), h4⟩
theorem u64 {k : Nat} (hX : InC k X) : X.A.units + 64 < cLine := by have := hX.room.un; omega
theorem sp_at {G : Hp} {v : V} {x : Sp2} (h : Rp.rep G v x) : ∃ q, v = .ref q ∧ G q = some (.tup [.int x.1, .bl x.2]) := by
  obtain ⟨q, u, w, e, h2, r1, r2⟩ := h
  cases (show u = V.int x.1 from r1)
  cases (show w = V.bl x.2 from r2)
  exact ⟨q, e, h2⟩
/-- name = set() -/
theorem s_newS {k0 : Nat} [hX : InC k0 X] {nm : Str} {pos' p2 : Pos} (i : Nat) (hN : X.N.Nodup) (hm : X.mg "set" = none) (k : ∀ (S1 : HS) (p : Addr), Grow S S1 → S.H p = none → MS S1 p [] → SB X rest D (Γ.set i (some ⟨(⟨p⟩ : Adr)⟩)) S1) (hg : Gl X "set" := by rfl)
    {q : Pos} (hi : X.N[i]? = some nm := by rfl) (hx : Loc X.env.scope nm := by first | exact Or.inl rfl | exact Or.inr rfl) (hs : swapsWith (.Call (.Name "set" p2) [] [] q) (some (.Name nm pos')) pos.line X.env = pure false := by rfl)
    (hf : X.fn nm = true ∨ X.env.scope.names.lookup nm = some .local := by first | exact .inl rfl | exact .inr rfl) : SB X (.Assign [.Name nm pos'] (.Call (.Name "set" p2) [] [] q) pos :: rest) D Γ S := fun σ hσ =>
  w_cons (w_ps (ps_set hN hi hx (pe_callTy0 cr_new2 hg hm (by decide +kernel) (by decide) (by decide)) hs hf) ⟨rfl, fun p hp => k (S.add p _ (S.le.free hp)) p (.add S p _ hp) hp
    ⟨S.le.free hp, [], by show L2.upd S.H p (SO X.prog X.w p []) p = _; rw [upd_same, hX.prog, hX.w], (fun q hq => by cases hq), List.Perm.refl _⟩ _ (Slots.set (t := ⟨(⟨p⟩ : Adr)⟩) (hσ.mono (Same.refl _)) i rfl)⟩)
theorem mem_ms {L : List Ent} (hp : (L.map (·.2)).Perm xs) : decide (x ∈ L.map (·.2)) = decide (x ∈ xs) := by
  rw [Bool.eq_iff_iff, decide_eq_true_iff, decide_eq_true_iff]
  exact hp.mem_iff
theorem tr_inS {k0 : Nat} [hX : InC k0 X] (hm : MS S p xs) (ha : ER X a Γ S x) (hb : ER X b Γ S (⟨p⟩ : Adr)) (h1 : behindInMarks .In b = false := by rfl) : TR X (.Compare a [.In] [b] pos) Γ S (decide (x ∈ xs)) := fun σ hσ S1 g Q k =>
  w_pt (pt_cmpR (or_in2 (u64 hX)) pe_w pe_w h1) (ha σ hσ S1 g _ fun S2 u g2 ru => hb σ hσ S2 (g.trans g2) _ fun S3 v g3 rv => by
    obtain ⟨_, L, h2, h3, h4⟩ := hm.up (g.trans (g2.trans g3))
    obtain ⟨q, e1, e2⟩ := sp_at (Rp.mono g3.g ru)
    exact ⟨q, p, x, L, e1, SqT.of (S3.le _ _ e2), rv, by rw [hX.prog, hX.w]; exact h2, fun z hz => SqT.of (S3.le _ _ (h3 z hz)), _, rfl, by rw [if_neg Bool.false_ne_true, mem_ms h4]; exact k S3 (g2.trans g3)⟩)
theorem tr_niS {k0 : Nat} [hX : InC k0 X] (hm : MS S p xs) (ha : ER X a Γ S x) (hb : ER X b Γ S (⟨p⟩ : Adr)) (h1 : behindInMarks .NotIn b = false := by rfl) : TR X (.Compare a [.NotIn] [b] pos) Γ S (!decide (x ∈ xs)) := fun σ hσ S1 g Q k =>
  w_pt (pt_cmpR (or_ni2 (u64 hX)) pe_w pe_w h1) (ha σ hσ S1 g _ fun S2 u g2 ru => hb σ hσ S2 (g.trans g2) _ fun S3 v g3 rv => by
    obtain ⟨_, L, h2, h3, h4⟩ := hm.up (g.trans (g2.trans g3))
    obtain ⟨q, e1, e2⟩ := sp_at (Rp.mono g3.g ru)
    exact ⟨q, p, x, L, e1, SqT.of (S3.le _ _ e2), rv, by rw [hX.prog, hX.w]; exact h2, fun z hz => SqT.of (S3.le _ _ (h3 z hz)), _, rfl, by rw [if_pos rfl, mem_ms h4]; exact k S3 (g2.trans g3)⟩)
def tAdd2 (K : PySem.W.Frag) (P : Program) (w : World) (to te : TE) : TE := fun σ H Q => to σ H fun x H1 => (∃ a L, x = V.ref a ∧ H1 a = some (SO P w a L)) ∧ te σ H1 fun y H2 => rAdd2 K P w x [y] H2 Q
theorem pe_add2 {to te : TE} {apos cpos : Pos} (hu : X.A.units + 64 < cLine) (ho : PE X o to) (he : PE X e te) (hbase : attributeBase o "add" X.env (eval o X.env) = eval o X.env)
    (hfew : ((backTo cpos (starEach [e] X.env)).all (fun x => !x.1) && (backToKw cpos (keywordEach [] X.env)).all (fun x => x.1.isSome) && decide (([e] : List Expr).length + ([] : List Keyword).length + (if ([] : List Keyword).isEmpty then 0 else 1) < 30)) = true)
    (hline : (apos.endLine == cpos.line) = true) (hs : starEach [e] X.env = (false, eval e X.env) :: starEach [] X.env) (hpl : (backTo cpos (starEach [] X.env)).any (·.1) = false) : PE X (.Call (.Attribute o "add" apos) [e] [] cpos) (tAdd2 X.K X.prog X.w to te) := by
  refine ⟨fun pins s σ H Q I h => wpAny_Call_method_late hbase hfew hline rfl (thn (ho.run pins s σ H _ I h) fun v s1 ⟨x, H1, I1, r1, ty, q1⟩ => ?_)⟩
  obtain ⟨a, L, rfl, hka⟩ := ty
  obtain ⟨es, ep, t, ⟨ob, hob, hex, _⟩, _⟩ := (so_get I1 hka).ex
  cases r1
  refine ⟨"set", "set.add", PySem.F.plainAttrs_set, PySem.F.slot_set_add, PySem.F.type_set_add, ⟨ob, hob, hex.1⟩, fun b e => by injection e with e; subst e; exact ⟨ob, hob, hex.2.1⟩, ?_⟩
  have hA := (pa_cons he pa_nil hs).run cpos pins s1 σ H1 (fun vs H2 => rAdd2 X.K X.prog X.w (V.ref a) vs H2 Q) I1 q1
  rw [hs] at hA ⊢
  exact Calls.callWith_builtin (by show (false || (backTo cpos (starEach [] X.env)).any (·.1)) = false; rw [hpl]; rfl) (Calls.evalArgs_plain (thn hA fun us s2 ⟨vs, H2, I2, r2, q2⟩ => mt_add2 hu pins s2 σ H2 (.ref a) vs (.ref a) us Q I2 rfl r2 q2))
/-- seen.add(x), of a spot that is not there -/
theorem s_addS {k0 : Nat} [hX : InC k0 X] {apos pos' : Pos} (hm : MS S p xs) (ha : ER X a Γ S (⟨p⟩ : Adr)) (he : ER X e Γ S x) (hx : x ∉ xs) (hz : xs.length + 1 ≤ 76) (k : ∀ S2 : HS, Upd S p S2 → MS S2 p (xs ++ [x]) → SB X rest D Γ S2)
    (hs : swapsWith (.Call (.Attribute a "add" apos) [e] [] pos) none pos'.line X.env = pure false := by rfl) (hbase : attributeBase a "add" X.env (eval a X.env) = eval a X.env := by rfl)
    (hfew : ((backTo pos (starEach [e] X.env)).all (fun x => !x.1) && (backToKw pos (keywordEach [] X.env)).all (fun x => x.1.isSome) && decide (([e] : List Expr).length + ([] : List Keyword).length + (if ([] : List Keyword).isEmpty then 0 else 1) < 30)) = true := by rfl)
    (hline : (apos.endLine == pos.line) = true := by rfl) (hst : starEach [e] X.env = (false, eval e X.env) :: starEach [] X.env := by rfl) (hpl : (backTo pos (starEach [] X.env)).any (·.1) = false := by rfl) : SB X (.Expr (.Call (.Attribute a "add" apos) [e] [] pos) pos' :: rest) D Γ S := fun σ hσ => by
  refine w_cons (w_ps (ps_expr (pe_add2 (u64 hX) pe_w pe_w hbase hfew hline hst hpl) hs) (ha σ hσ S (.refl _) _ fun S1 u g1 ru => ?_))
  cases (show u = V.ref p from ru)
  obtain ⟨_, L1, i2, _⟩ := hm.up g1
  refine ⟨⟨p, L1, rfl, by rw [hX.prog, hX.w]; exact i2⟩, he σ hσ S1 g1 _ fun S2 w g2 rw' => ?_⟩
  obtain ⟨n3, L, h2, h3, h4⟩ := hm.up (g1.trans g2)
  obtain ⟨q, rfl, e2⟩ := sp_at rw'
  have hlen : L.length = xs.length := by
    have := h4.length_eq
    rw [List.length_map] at this
    exact this
  refine ⟨p, q, x, L, rfl, rfl, by rw [hX.prog, hX.w]; exact h2, SqT.of (S2.le _ _ e2), fun z hz => SqT.of (S2.le _ _ (h3 z hz)), by omega, fun z => hx (h4.mem_iff.mp z), fun L' pm => ?_⟩
  refine k (S2.add p (SO X.prog X.w p L') n3) ((Upd.add n3).after (g1.trans g2)) ⟨n3, L', by show L2.upd S2.H p (SO X.prog X.w p L') p = _; rw [upd_same, hX.prog, hX.w], fun z hz => ?_, ?_⟩ σ (hσ.mono (g1.trans g2).g)
  · rcases List.mem_cons.mp (pm.mem_iff.mp hz) with e | hz
    · rw [e]
      exact e2
    · exact h3 z hz
  · have p1 := pm.map (fun z : Ent => z.2)
    rw [List.map_cons] at p1
    exact p1.trans ((h4.cons x).trans (List.perm_append_singleton x xs).symm)
end
end Fl

set_option Elab.async false
set_option linter.all false
set_option maxRecDepth 100000
set_option maxHeartbeats 4000000
namespace Fl
open PySem PySem.Spec PyProof.Rows L2
abbrev XSt := List Sp2 × List (Option Int)
def startTurn (cl : List Int) (st : XSt) (c : Int) : XSt := if c ∉ cl ∧ (c, false) ∉ st.1 then (st.1 ++ [(c, false)], st.2 ++ [none]) else st
def exTurn (place : Int) (st : XSt) (s : Sp2) : XSt := if s ∈ st.1 then st else (st.1 ++ [s], st.2 ++ [some place])
def exGo (fl : Flo) (cl : List Int) (T : Int → Option (Option Int)) : Nat → Nat → XSt → XSt
  | 0, _, st => st
  | n + 1, p, st => match st.1[p]? with
    | none => st
    | some s => exGo fl cl T n (p + 1) ((nextSpots fl cl T s).foldl (exTurn p) st)
def explore (fl : Flo) (cl : List Int) (ws : List (List Int)) (starts : List Int) : XSt := exGo fl cl (aheadT ws) (2 * fl.near.length + 1) 0 ((sortI starts).foldl (startTurn cl) ([], []))
/-! the table -/
theorem atGo_mem : ∀ (w : List Int) (f : Int → Option (Option Int)) (b : Option Int) (c : Int) (o : Option Int), atGo f b w c = some o → f c = some o ∨ (c ∈ w ∧ ∀ z, o = some z → (z, c) ∈ (match b with | none => pairsOf w | some y => pairsOf (y :: w)))
  | [], f, b, c, o, h => .inl h
  | x :: r, f, b, c, o, h => by
    have h : atGo (fun j => if j = x then some b else f j) (some x) r c = some o := h
    rcases atGo_mem r _ _ c o h with h | ⟨h1, h2⟩
    · by_cases e : c = x
      · subst e
        rw [if_pos rfl] at h
        have eb : b = o := Option.some.inj h
        refine .inr ⟨List.mem_cons_self, fun z hz => ?_⟩
        rw [← eb] at hz
        subst hz
        exact List.mem_cons_self
      · rw [if_neg e] at h
        exact .inl h
    · refine .inr ⟨List.mem_cons_of_mem _ h1, fun z hz => ?_⟩
      have h3 := h2 z hz
      cases b with
      | none => exact h3
      | some y => exact List.mem_cons_of_mem _ h3
theorem aheadGo_mem : ∀ (ws : List (List Int)) (f : Int → Option (Option Int)) (c : Int) (o : Option Int), aheadGo f ws c = some o → f c = some o ∨ (c ∈ ws.flatten ∧ ∀ z, o = some z → (z, c) ∈ linksOf ws)
  | [], f, c, o, h => .inl h
  | w :: r, f, c, o, h => by
    rcases aheadGo_mem r _ c o h with h | ⟨h1, h2⟩
    · rcases atGo_mem w f none c o h with h | ⟨h1, h2⟩
      · exact .inl h
      · exact .inr ⟨by rw [List.flatten_cons]; exact List.mem_append_left _ h1, fun z hz => by unfold linksOf; rw [List.map_cons, List.flatten_cons]; exact List.mem_append_left _ (h2 z hz)⟩
    · exact .inr ⟨by rw [List.flatten_cons]; exact List.mem_append_right _ h1, fun z hz => by unfold linksOf; rw [List.map_cons, List.flatten_cons]; exact List.mem_append_right _ (h2 z hz)⟩
theorem ahead_mem {ws : List (List Int)} {c : Int} {o : Option Int} (h : aheadT ws c = some o) : c ∈ ws.flatten ∧ ∀ z, o = some z → (z, c) ∈ linksOf ws := (aheadGo_mem ws _ c o h).resolve_left (fun z => nomatch z)
theorem pairs_in {w : List Int} {l : Lk} (h : l ∈ pairsOf w) : l.1 ∈ w ∧ l.2 ∈ w := by
  unfold pairsOf at h
  have := List.of_mem_zip (a := l.1) (b := l.2) h
  exact ⟨this.1, List.mem_of_mem_tail this.2⟩
theorem links_in {ws : List (List Int)} {l : Lk} (h : l ∈ linksOf ws) : l.1 ∈ ws.flatten ∧ l.2 ∈ ws.flatten := by
  unfold linksOf at h
  obtain ⟨q, hq, hl⟩ := List.mem_flatten.mp h
  obtain ⟨w, hw, rfl⟩ := List.mem_map.mp hq
  have := pairs_in hl
  exact ⟨List.mem_flatten.mpr ⟨w, hw, this.1⟩, List.mem_flatten.mpr ⟨w, hw, this.2⟩⟩
structure PreX (fl : Flo) (ws : List (List Int)) (starts : List Int) : Prop where
  ok : fl.Ok
  few : ws.flatten.length ≤ 900
  cells : ∀ c ∈ ws.flatten, 0 ≤ c ∧ c < fl.size
  starts : ∀ c ∈ starts, 0 ≤ c ∧ c < fl.size
theorem next_in [Ctx] {fl : Flo} {cl : List Int} {ws : List (List Int)} (ok : fl.Ok) (cells : ∀ c ∈ ws.flatten, 0 ≤ c ∧ c < fl.size) {s t : Sp2} (h0 : 0 ≤ s.1) (h1 : s.1 < fl.size) (h : t ∈ nextSpots fl cl (aheadT ws) s) : 0 ≤ t.1 ∧ t.1 < fl.size := by
  unfold nextSpots at h
  split at h
  · rcases List.mem_append.mp h with h | h
    · obtain ⟨o, ho, rfl⟩ := List.mem_map.mp h
      have ho := (List.mem_filter.mp ho).1
      exact ok.near _ (List.mem_of_getElem? (near_at h0 h1)) o ho
    · split at h
      · rw [List.mem_singleton.mp h]
        exact ⟨h0, h1⟩
      · cases h
  · split at h
    · rw [List.mem_singleton.mp h]
      exact ⟨h0, h1⟩
    · cases h
    · next b e =>
      rw [List.mem_singleton.mp h]
      exact cells b (links_in ((ahead_mem e).2 b rfl)).1
structure XOk (fl : Flo) (cl : List Int) (T : Int → Option (Option Int)) (starts : List Int) (st : XSt) : Prop where
  len : st.1.length = st.2.length
  nd : st.1.Nodup
  rng : ∀ s ∈ st.1, 0 ≤ s.1 ∧ s.1 < fl.size
  dn : ∀ (j : Nat) (k : Int), st.2[j]? = some (some k) → 0 ≤ k ∧ k < j ∧ ∃ s t, st.1[k.toNat]? = some s ∧ st.1[j]? = some t ∧ t ∈ nextSpots fl cl T s
  up : ∀ (j : Nat), st.2[j]? = some none → ∃ c, st.1[j]? = some (c, false) ∧ c ∈ starts
theorem code_few {n : Nat} {xs : List Sp2} (nd : xs.Nodup) (h : ∀ s ∈ xs, 0 ≤ s.1 ∧ s.1 < n) : xs.length ≤ 2 * n := by
  have nd2 : (xs.map fun s => 2 * s.1 + PpSet.b2 s.2).Nodup := by
    rw [List.nodup_iff_pairwise_ne] at nd ⊢
    rw [List.pairwise_map]
    refine nd.imp fun {a b} hab e => hab ?_
    obtain ⟨a1, a2⟩ := a
    obtain ⟨b1, b2⟩ := b
    have e : 2 * a1 + PpSet.b2 a2 = 2 * b1 + PpSet.b2 b2 := e
    cases a2 <;> cases b2 <;> unfold PpSet.b2 at e <;> simp at e ⊢ <;> omega
  have := nodup_few (2 * n) _ nd2 fun z hz => by
    obtain ⟨s, hs, rfl⟩ := List.mem_map.mp hz
    have := h s hs
    have hb : 0 ≤ PpSet.b2 s.2 ∧ PpSet.b2 s.2 ≤ 1 := by unfold PpSet.b2; split <;> omega
    omega
  rw [List.length_map] at this
  exact this
theorem XOk.few {fl : Flo} {cl : List Int} {T : Int → Option (Option Int)} {starts : List Int} {st : XSt} (h : XOk fl cl T starts st) : st.1.length ≤ 2 * fl.near.length := code_few h.nd h.rng
theorem snoc_at {α : Type} {xs : List α} {x y : α} {j : Nat} (h : (xs ++ [x])[j]? = some y) : xs[j]? = some y ∨ (j = xs.length ∧ x = y) := by
  by_cases e : j < xs.length
  · rw [List.getElem?_append_left e] at h
    exact .inl h
  · rw [List.getElem?_append_right (by omega)] at h
    have hl := (List.getElem?_eq_some_iff.mp h).1
    rw [List.length_singleton] at hl
    have e1 : j = xs.length := by omega
    subst e1
    rw [Nat.sub_self] at h
    exact .inr ⟨rfl, Option.some.inj h⟩
theorem snoc_old {α : Type} {xs : List α} {x y : α} {j : Nat} (h : xs[j]? = some y) : (xs ++ [x])[j]? = some y := by
  rw [List.getElem?_append_left (List.getElem?_eq_some_iff.mp h).1]
  exact h
theorem snoc_new {α : Type} {xs : List α} {x : α} : (xs ++ [x])[xs.length]? = some x := by
  rw [List.getElem?_append_right (Nat.le_refl _), Nat.sub_self]
  rfl
section
variable {fl : Flo} {cl : List Int} {T : Int → Option (Option Int)} {starts : List Int} {st : XSt}
theorem nd_snoc {α : Type} {xs : List α} {x : α} (nd : xs.Nodup) (h : x ∉ xs) : (xs ++ [x]).Nodup := by
  rw [List.nodup_append]
  exact ⟨nd, List.nodup_cons.mpr ⟨List.not_mem_nil, List.nodup_nil⟩, fun a ha b hb => by rw [List.mem_singleton.mp hb]; exact fun z => h (z ▸ ha)⟩
theorem XOk.start (h : XOk fl cl T starts st) {c : Int} (h0 : 0 ≤ c) (h1 : c < fl.size) (hc : c ∈ starts) (hn : (c, false) ∉ st.1) : XOk fl cl T starts (st.1 ++ [(c, false)], st.2 ++ [none]) where
  len := by rw [List.length_append, List.length_append, h.len]; rfl
  nd := nd_snoc h.nd hn
  rng := fun s hs => by
    rcases List.mem_append.mp hs with hs | hs
    · exact h.rng s hs
    · rw [List.mem_singleton.mp hs]
      exact ⟨h0, h1⟩
  dn := fun j k e => by
    rcases snoc_at e with e | ⟨_, e⟩
    · obtain ⟨a, b, s, t, e1, e2, e3⟩ := h.dn j k e
      exact ⟨a, b, s, t, snoc_old e1, snoc_old e2, e3⟩
    · cases e
  up := fun j e => by
    rcases snoc_at e with e | ⟨e, _⟩
    · obtain ⟨z, e1, e2⟩ := h.up j e
      exact ⟨z, snoc_old e1, e2⟩
    · exact ⟨c, by rw [e, ← h.len]; exact snoc_new, hc⟩
theorem XOk.more (h : XOk fl cl T starts st) {s t : Sp2} {p : Nat} (hp : st.1[p]? = some s) (ht : t ∈ nextSpots fl cl T s) (h0 : 0 ≤ t.1 ∧ t.1 < fl.size) (hn : t ∉ st.1) : XOk fl cl T starts (st.1 ++ [t], st.2 ++ [some (p : Int)]) where
  len := by rw [List.length_append, List.length_append, h.len]; rfl
  nd := nd_snoc h.nd hn
  rng := fun s hs => by
    rcases List.mem_append.mp hs with hs | hs
    · exact h.rng s hs
    · rw [List.mem_singleton.mp hs]
      exact h0
  dn := fun j k e => by
    rcases snoc_at e with e | ⟨ej, e2⟩
    · obtain ⟨a, b, s, t, e1, e2, e3⟩ := h.dn j k e
      exact ⟨a, b, s, t, snoc_old e1, snoc_old e2, e3⟩
    · cases e2
      have hl := (List.getElem?_eq_some_iff.mp hp).1
      have := h.len
      exact ⟨by omega, by omega, s, t, by rw [Int.toNat_natCast]; exact snoc_old hp, by rw [ej, ← h.len]; exact snoc_new, ht⟩
  up := fun j e => by
    rcases snoc_at e with e | ⟨_, e⟩
    · obtain ⟨z, e1, e2⟩ := h.up j e
      exact ⟨z, snoc_old e1, e2⟩
    · cases e
end
section
variable [c : Ctx]
theorem cal_explore : Cal "explore" 2 (Spc (fun a : Flo × List Int × List (List Int) × List Int × Unit => PreX a.1 a.2.2.1 a.2.2.2.1) fun a (y : XSt) => y = explore a.1 a.2.1 a.2.2.1 a.2.2.2.1 ∧ XOk a.1 a.2.1 (aheadT a.2.2.1) a.2.2.2.1 y) := by
  refine mkCal (d := d_explore) i_explore sc_explore g_explore (fun f cdv A outer s S a Q E hp hX hq => ?_) (hb := fun _ _ _ _ _ _ us hl => match us, hl with | [_, _, _, _], _ => rfl)
  obtain ⟨fl, cl, ws, sts, ⟨⟩⟩ := a
  obtain ⟨ok, few, cells, hst⟩ : PreX fl ws sts := hp
  replace hq : ∀ S1 r (y : XSt), Grow S S1 → Rp.rep S1.G r y → y = explore fl cl ws sts ∧ XOk fl cl (aheadT ws) sts y → Q r S1.H := hq
  have nd := sc_explore.nd
  have hsm := ok.small
  have hwf : ws.flatten.length ≤ 1000 := by omega
  show SB _ _ _ [some ⟨fl⟩, some ⟨cl⟩, some ⟨ws⟩, some ⟨sts⟩, none, none, none, none, none, none, none] S
  refine s_set (x := (⟨aheadT ws⟩ : Dct (Option Int))) 4 nd (er_call cal_ahead_table (u := (ws, ())) (ar_cons (er_var 2) ar_nil) hwf) fun S1 g1 => ?_
  refine s_setN (α := Sp2) 5 nd en_lst0 fun S2 p g2 hp2 m2 => ?_
  refine s_setN (α := Option Int) 6 nd en_lst0 fun S3 q g3 hq3 m3 => ?_
  refine s_newS 7 nd b_set fun S4 u g4 hu4 m4 => ?_
  have p0 : S.H p = none := g1.h.free hp2
  have q0 : S.H q = none := (g1.trans g2).h.free hq3
  have u0 : S.H u = none := ((g1.trans g2).trans g3).h.free hu4
  have npq : p ≠ q := (m2.ne hq3).symm
  have npu : p ≠ u := fun z => (m2.up g3).there (z ▸ hu4)
  have nqu : q ≠ u := fun z => m3.there (z ▸ hu4)
  have g14 := ((g1.trans g2).trans g3).trans g4
  refine s_for PassesOwn.never rfl (it_list (er_sorted b_sorted (er_var 3))) (bg_name 8 nd) fun S5 g5 => ?_
  refine ⟨fun r Γ' S' => ∃ st : XSt, Γ' = [some ⟨fl⟩, some ⟨cl⟩, some ⟨ws⟩, some ⟨sts⟩, some ⟨(⟨aheadT ws⟩ : Dct (Option Int))⟩, some ⟨(⟨p⟩ : Adr)⟩, some ⟨(⟨q⟩ : Adr)⟩, some ⟨(⟨u⟩ : Adr)⟩, none, none, none] ∧ Grow S S' ∧ Same S5.G S'.G ∧ ML S' p st.1 ∧ ML S' q st.2 ∧ MS S' u st.1 ∧
    XOk fl cl (aheadT ws) sts st ∧ (∀ c ∈ r, c ∈ sts) ∧ r.foldl (startTurn cl) st = (sortI sts).foldl (startTurn cl) ([], []),
    ⟨([], []), rfl, g14.trans g5, Same.refl _, ((m2.up g3).up g4).up g5, (m3.up g4).up g5, m4.up g5, ⟨rfl, List.nodup_nil, fun s hs => (by cases hs), fun j k e => (by simp at e), fun j e => (by simp at e)⟩, fun c hc => (sortI_perm sts).mem_iff.mp hc, rfl⟩, fun r Γ' S' ⟨_, _, _, h, _⟩ => h, ?_, ?_⟩
  · rintro pre x r Γ' S' hx ⟨st, rfl, gS, s5, mp, mq, mu, xo, hr, hf⟩ S6 g6
    have hxs := hr x List.mem_cons_self
    have hxr := hst x hxs
    have hlen := xo.few
    have hll := xo.len
    have gS6 := gS.trans g6
    refine s_if (tr_and (p2 := default) (tr_cmp (cv_niL (er_var 8) (er_var 1))) fun _ => tr_niS (mu.up g6) (er_pair (er_var 8) er_bl) (er_var 7)) (fun t S7 g7 => ?_) (fun t S7 g7 => s_end (s_next (.keep (.keep (.keep (.keep (.keep (.keep (.keep (.keep (.drop (.drop (.drop .nil))))))))))) ?_))
    · have t1 : x ∉ cl ∧ (x, false) ∉ st.1 := by simpa using t
      have few2 : (st.1 ++ [(x, false)]).length ≤ 72 := by have := (xo.start hxr.1 hxr.2 hxs t1.2).few; dsimp only at this; omega
      rw [List.length_append, List.length_singleton] at few2
      refine s_addS ((mu.up g6).up g7) (er_var 7) (er_pair (er_var 8) er_bl) t1.2 (by omega) fun S8 u8 m8 => ?_
      refine s_app (((mp.up g6).up g7).upd u8 npu) (er_var 5) (er_pair (er_var 8) er_bl) (by omega) fun S9 u9 m9 => ?_
      refine s_app (x := (none : Option Int)) ((((mq.up g6).up g7).upd u8 nqu).upd u9 npq.symm) (er_var 6) er_non (by omega) fun S10 u10 m10 => s_end (s_next (.keep (.keep (.keep (.keep (.keep (.keep (.keep (.keep (.drop (.drop (.drop .nil))))))))))) ?_)
      have e : startTurn cl st x = (st.1 ++ [(x, false)], st.2 ++ [none]) := by unfold startTurn; rw [if_pos t1]
      exact ⟨startTurn cl st x, rfl, (((gS6.trans g7).upd u0 u8).upd p0 u9).upd q0 u10, (((s5.trans (g6.trans g7).g).trans u8.g).trans u9.g).trans u10.g, by rw [e]; exact m9.upd u10 npq, by rw [e]; exact m10, by rw [e]; exact (m8.upd u9 npu.symm).upd u10 nqu.symm,
        by rw [e]; exact xo.start hxr.1 hxr.2 hxs t1.2, fun c hc => hr c (List.mem_cons_of_mem _ hc), hf⟩
    · have t1 : ¬ (x ∉ cl ∧ (x, false) ∉ st.1) := fun ⟨z1, z2⟩ => by simp [z1, z2] at t
      have e : startTurn cl st x = st := by unfold startTurn; rw [if_neg t1]
      exact ⟨st, rfl, gS6.trans g7, s5.trans (g6.trans g7).g, (mp.up g6).up g7, (mq.up g6).up g7, (mu.up g6).up g7, xo, fun c hc => hr c (List.mem_cons_of_mem _ hc), by rw [← hf, List.foldl_cons, e]⟩
  · rintro Γ' S' ⟨st, rfl, gS, s5, mp, mq, mu, xo, _, hf⟩
    have hf : st = (sortI sts).foldl (startTurn cl) ([], []) := hf
    refine s_set 9 nd er_int fun S6 g6 => ?_
    refine s_while PassesOwn.never (fun m Γ' S' => ∃ (st : XSt) (k : Nat), Γ' = [some ⟨fl⟩, some ⟨cl⟩, some ⟨ws⟩, some ⟨sts⟩, some ⟨(⟨aheadT ws⟩ : Dct (Option Int))⟩, some ⟨(⟨p⟩ : Adr)⟩, some ⟨(⟨q⟩ : Adr)⟩, some ⟨(⟨u⟩ : Adr)⟩, none, some ⟨(k : Int)⟩, none] ∧ m = 2 * fl.near.length + 1 - k ∧ k ≤ st.1.length ∧ Grow S S' ∧ ML S' p st.1 ∧ ML S' q st.2 ∧ MS S' u st.1 ∧
      XOk fl cl (aheadT ws) sts st ∧ exGo fl cl (aheadT ws) (2 * fl.near.length + 1 - k) k st = explore fl cl ws sts) _ ⟨st, 0, rfl, rfl, Nat.zero_le _, gS.trans g6, mp.up g6, mq.up g6, mu.up g6, xo, by rw [hf]; rfl⟩ ?_
    rintro m Γ' S' ⟨st, k, rfl, rfl, hk, gS, mp, mq, mu, xo, hf⟩
    have hfew := xo.few
    have hll := xo.len
    refine ⟨_, tr_cmp (cv_lt (er_var 9) (er_lenM b_len mp (er_var 5))), fun t S7 g7 => ?_, fun t S7 g7 => ?_⟩
    · have hlt : k < st.1.length := by have := of_decide_eq_true t; omega
      obtain ⟨s0, hs0⟩ : ∃ s0, st.1[k]? = some s0 := ⟨_, List.getElem?_eq_getElem hlt⟩
      have hr0 := xo.rng s0 (List.mem_of_getElem? hs0)
      refine s_for PassesOwn.never rfl (it_list (er_call cal_next_spots (u := (fl, cl, (⟨aheadT ws⟩ : Dct (Option Int)), s0, ())) (ar_cons (er_var 0) (ar_cons (er_var 1) (ar_cons (er_var 4) (ar_cons (er_ixM (mp.up g7) (er_var 5) (er_var 9) (by omega) (by rw [Int.toNat_natCast]; exact hs0)) ar_nil)))) ⟨ok, hr0.1, hr0.2⟩)) (bg_name 10 nd) fun S8 g8 => ?_
      refine ⟨fun r Γ' S' => ∃ st2 : XSt, Γ' = [some ⟨fl⟩, some ⟨cl⟩, some ⟨ws⟩, some ⟨sts⟩, some ⟨(⟨aheadT ws⟩ : Dct (Option Int))⟩, some ⟨(⟨p⟩ : Adr)⟩, some ⟨(⟨q⟩ : Adr)⟩, some ⟨(⟨u⟩ : Adr)⟩, none, some ⟨(k : Int)⟩, none] ∧ Grow S S' ∧ Same S8.G S'.G ∧ ML S' p st2.1 ∧ ML S' q st2.2 ∧ MS S' u st2.1 ∧
        XOk fl cl (aheadT ws) sts st2 ∧ st2.1[k]? = some s0 ∧ (∀ z ∈ r, z ∈ nextSpots fl cl (aheadT ws) s0) ∧ r.foldl (exTurn k) st2 = (nextSpots fl cl (aheadT ws) s0).foldl (exTurn k) st,
        ⟨st, rfl, (gS.trans g7).trans g8, Same.refl _, (mp.up g7).up g8, (mq.up g7).up g8, (mu.up g7).up g8, xo, hs0, fun z hz => hz, rfl⟩, fun r Γ' S' ⟨_, _, _, h, _⟩ => h, ?_, ?_⟩
      · rintro pre x r Γ' S' hx ⟨st2, rfl, gS, s8, mp, mq, mu, xo, hs2, hr, hf2⟩ S9 g9
        have hxn := hr x List.mem_cons_self
        have hxr := next_in ok cells hr0.1 hr0.2 hxn
        have hll2 := xo.len
        refine s_if (tr_niS (mu.up g9) (er_var 10) (er_var 7)) (fun t S10 g10 => ?_) (fun t S10 g10 => s_end (s_next (.keep (.keep (.keep (.keep (.keep (.keep (.keep (.keep (.keep (.keep (.drop .nil))))))))))) ?_))
        · have t1 : x ∉ st2.1 := by simpa using t
          have few2 : (st2.1 ++ [x]).length ≤ 72 := by have := (xo.more hs2 hxn hxr t1).few; dsimp only at this; omega
          rw [List.length_append, List.length_singleton] at few2
          refine s_addS ((mu.up g9).up g10) (er_var 7) (er_var 10) t1 (by omega) fun S11 u11 m11 => ?_
          refine s_app (((mp.up g9).up g10).upd u11 npu) (er_var 5) (er_var 10) (by omega) fun S12 u12 m12 => ?_
          refine s_app (x := some (k : Int)) ((((mq.up g9).up g10).upd u11 nqu).upd u12 npq.symm) (er_var 6) (er_some (er_var 9)) (by omega) fun S13 u13 m13 => s_end (s_next (.keep (.keep (.keep (.keep (.keep (.keep (.keep (.keep (.keep (.keep (.drop .nil))))))))))) ?_)
          have e : exTurn k st2 x = (st2.1 ++ [x], st2.2 ++ [some (k : Int)]) := by unfold exTurn; rw [if_neg t1]
          exact ⟨exTurn k st2 x, rfl, ((((gS.trans g9).trans g10).upd u0 u11).upd p0 u12).upd q0 u13, (((s8.trans (g9.trans g10).g).trans u11.g).trans u12.g).trans u13.g, by rw [e]; exact m12.upd u13 npq, by rw [e]; exact m13, by rw [e]; exact (m11.upd u12 npu.symm).upd u13 nqu.symm,
            by rw [e]; exact xo.more hs2 hxn hxr t1, by rw [e]; exact snoc_old hs2, fun z hz => hr z (List.mem_cons_of_mem _ hz), hf2⟩
        · have t1 : x ∈ st2.1 := by simpa using t
          have e : exTurn k st2 x = st2 := by unfold exTurn; rw [if_pos t1]
          exact ⟨st2, rfl, (gS.trans g9).trans g10, s8.trans (g9.trans g10).g, (mp.up g9).up g10, (mq.up g9).up g10, (mu.up g9).up g10, xo, hs2, fun z hz => hr z (List.mem_cons_of_mem _ hz), by rw [← hf2, List.foldl_cons, e]⟩
      · rintro Γ' S' ⟨st2, rfl, gS, s8, mp, mq, mu, xo2, hs2, _, hf2⟩
        have hf2 : st2 = (nextSpots fl cl (aheadT ws) s0).foldl (exTurn k) st := hf2
        have hl2 := (List.getElem?_eq_some_iff.mp hs2).1
        have hfew2 := xo2.few
        refine s_aug 9 nd rfl er_int fun S9 g9 => s_next (.keep (.keep (.keep (.keep (.keep (.keep (.keep (.keep (.keep (.keep (.keep .nil))))))))))) ?_
        refine ⟨2 * fl.near.length + 1 - (k + 1), by omega, st2, k + 1, rfl, rfl, by omega, gS.trans g9, mp.up g9, mq.up g9, mu.up g9, xo2, ?_⟩
        rw [← hf]
        have e : 2 * fl.near.length + 1 - k = (2 * fl.near.length + 1 - (k + 1)) + 1 := by omega
        rw [e]
        conv => rhs; unfold exGo
        rw [hs0, hf2]
    · have hge : st.1.length ≤ k := by have := of_decide_eq_false t; omega
      have hnone : st.1[k]? = none := List.getElem?_eq_none_iff.mpr hge
      have hend : ∀ n, exGo fl cl (aheadT ws) n k st = st := fun n => by
        cases n with
        | zero => rfl
        | succ n =>
          unfold exGo
          rw [hnone]
      rw [hend] at hf
      refine SB.fixM 5 (gS.trans g7) p0 (mp.up g7) fun S8 e8 g8 s8 n8 => ?_
      refine SB.fixM 6 g8 q0 ((mq.up g7).fix e8 s8 n8 npq.symm) fun S9 e9 g9 _ _ => ?_
      exact s_ret (er_pair (er_var 5) (er_var 6)) fun S10 v g10 r => hq S10 v _ (g9.trans g10) r ⟨hf, xo⟩
end
end Fl

set_option Elab.async false
set_option linter.all false
set_option maxRecDepth 100000
set_option maxHeartbeats 4000000
namespace Fl
open PySem PySem.Spec PyProof.Rows L2
/-! ### paths -/
theorem pathGo_z (sp : List Sp2) (pa : List (Option Int)) (n : Nat) (acc : List Sp2) : pathGo sp pa n acc none = acc := by cases n <;> rfl
theorem nodup_at {α : Type} {xs : List α} (nd : xs.Nodup) {i j : Nat} {x : α} (h1 : xs[i]? = some x) (h2 : xs[j]? = some x) : i = j := by
  obtain ⟨a1, e1⟩ := List.getElem?_eq_some_iff.mp h1
  obtain ⟨a2, e2⟩ := List.getElem?_eq_some_iff.mp h2
  have q := List.pairwise_iff_getElem.mp nd
  rcases Nat.lt_trichotomy i j with z | z | z
  · exact absurd (e1.trans e2.symm) (q i j a1 a2 z)
  · exact z
  · exact absurd (e2.trans e1.symm) (q j i a2 a1 z)
theorem mem_eraseD {α : Type} [DecidableEq α] {k : List α} {a b : α} (h : a ≠ b) : a ∈ eraseD k b ↔ a ∈ k := List.mem_erase_of_ne h
theorem perm_eraseD {α : Type} [DecidableEq α] {k : List α} {a : α} (h : a ∈ k) : k.Perm (a :: eraseD k a) := List.perm_cons_erase h
def Chn (N : Sp2 → List Sp2) : List Sp2 → Prop
  | s :: t :: r => t ∈ N s ∧ Chn N (t :: r)
  | _ => True
theorem Chn.snoc {N : Sp2 → List Sp2} : ∀ {l : List Sp2} {s t : Sp2}, Chn N l → l.getLast? = some s → t ∈ N s → Chn N (l ++ [t])
  | [], _, _, _, e, _ => by cases e
  | [a], s, t, _, e, h => by
    cases e
    exact ⟨h, trivial⟩
  | a :: b :: r, s, t, ⟨h1, h2⟩, e, h => ⟨h1, Chn.snoc (l := b :: r) h2 (by rw [List.getLast?_cons_cons] at e; exact e) h⟩
structure PathOk (fl : Flo) (cl : List Int) (T : Int → Option (Option Int)) (starts : List Int) (l : List Sp2) : Prop where
  ne : l ≠ []
  ch : Chn (nextSpots fl cl T) l
  nd : l.Nodup
  hd : ∃ c r, l = (c, false) :: r ∧ c ∈ starts
  rng : ∀ s ∈ l, 0 ≤ s.1 ∧ s.1 < fl.size
theorem path_of {fl : Flo} {cl : List Int} {T : Int → Option (Option Int)} {starts : List Int} {st : XSt} (h : XOk fl cl T starts st) :
    ∀ (m j : Nat), j ≤ m → j < st.1.length → ∃ l, PathOk fl cl T starts l ∧ l.getLast? = st.1[j]? ∧ (∀ s ∈ l, ∃ i, i ≤ j ∧ st.1[i]? = some s) ∧ ∀ n, j + 1 ≤ n → ∀ acc, pathGo st.1 st.2 n acc (some (j : Int)) = acc ++ l.reverse := by
  intro m
  induction m with
  | zero =>
    intro j hj hl
    have e0 : j = 0 := by omega
    subst e0
    obtain ⟨s0, hs0⟩ : ∃ s, st.1[0]? = some s := ⟨_, List.getElem?_eq_getElem hl⟩
    have hlen := h.len
    obtain ⟨o, ho⟩ : ∃ o, st.2[0]? = some o := ⟨_, List.getElem?_eq_getElem (by omega)⟩
    cases o with
    | some k =>
      have := h.dn 0 k ho
      omega
    | none =>
      obtain ⟨c, e1, e2⟩ := h.up 0 ho
      rw [hs0] at e1
      cases e1
      refine ⟨[(c, false)], ⟨List.cons_ne_nil _ _, trivial, List.nodup_cons.mpr ⟨List.not_mem_nil, List.nodup_nil⟩, ⟨c, [], rfl, e2⟩, fun s hs => by rw [List.mem_singleton.mp hs]; exact h.rng _ (List.mem_of_getElem? hs0)⟩, hs0.symm, fun s hs => ⟨0, Nat.le_refl _, by rw [List.mem_singleton.mp hs]; exact hs0⟩, fun n hn acc => ?_⟩
      obtain ⟨n', rfl⟩ : ∃ n', n = n' + 1 := ⟨n - 1, by omega⟩
      show pathGo st.1 st.2 n' (acc ++ [st.1.getD 0 (0, false)]) (st.2.getD 0 none) = _
      rw [List.getD_eq_getElem?_getD, List.getD_eq_getElem?_getD, hs0, ho]
      exact pathGo_z _ _ _ _
  | succ m ih =>
    intro j hj hl
    obtain ⟨s0, hs0⟩ : ∃ s, st.1[j]? = some s := ⟨_, List.getElem?_eq_getElem hl⟩
    have hlen := h.len
    obtain ⟨o, ho⟩ : ∃ o, st.2[j]? = some o := ⟨_, List.getElem?_eq_getElem (by omega)⟩
    have open_ : ∀ n', ∀ acc, pathGo st.1 st.2 (n' + 1) acc (some (j : Int)) = pathGo st.1 st.2 n' (acc ++ [s0]) o := fun n' acc => by
      show pathGo st.1 st.2 n' (acc ++ [st.1.getD (j : Int).toNat (0, false)]) (st.2.getD (j : Int).toNat none) = _
      rw [Int.toNat_natCast, List.getD_eq_getElem?_getD, List.getD_eq_getElem?_getD, hs0, ho]
      rfl
    cases o with
    | none =>
      obtain ⟨c, e1, e2⟩ := h.up j ho
      rw [hs0] at e1
      cases e1
      refine ⟨[(c, false)], ⟨List.cons_ne_nil _ _, trivial, List.nodup_cons.mpr ⟨List.not_mem_nil, List.nodup_nil⟩, ⟨c, [], rfl, e2⟩, fun s hs => by rw [List.mem_singleton.mp hs]; exact h.rng _ (List.mem_of_getElem? hs0)⟩, hs0.symm, fun s hs => ⟨j, Nat.le_refl _, by rw [List.mem_singleton.mp hs]; exact hs0⟩, fun n hn acc => ?_⟩
      obtain ⟨n', rfl⟩ : ∃ n', n = n' + 1 := ⟨n - 1, by omega⟩
      rw [open_]
      exact pathGo_z _ _ _ _
    | some k =>
      obtain ⟨k0, k1, s, t, f1, f2, f3⟩ := h.dn j k ho
      rw [hs0] at f2
      cases f2
      obtain ⟨l, P, hlast, hin, hgo⟩ := ih k.toNat (by omega) (by omega)
      rw [f1] at hlast
      have hnew : s0 ∉ l := fun z => by
        obtain ⟨i, hi, e⟩ := hin s0 z
        have hi2 : i < j := by omega
        have := nodup_at h.nd e hs0
        omega
      obtain ⟨c, r, hc, hcs⟩ := P.hd
      refine ⟨l ++ [s0], ⟨by simp, P.ch.snoc hlast f3, nd_snoc P.nd hnew, ⟨c, r ++ [s0], by rw [hc]; rfl, hcs⟩, fun s hs => ?_⟩, by rw [List.getLast?_append, hs0]; rfl, fun s hs => ?_, fun n hn acc => ?_⟩
      · rcases List.mem_append.mp hs with hs | hs
        · exact P.rng s hs
        · rw [List.mem_singleton.mp hs]
          exact h.rng _ (List.mem_of_getElem? hs0)
      · rcases List.mem_append.mp hs with hs | hs
        · obtain ⟨i, hi, e⟩ := hin s hs
          exact ⟨i, by omega, e⟩
        · rw [List.mem_singleton.mp hs]
          exact ⟨j, Nat.le_refl _, hs0⟩
      · obtain ⟨n', rfl⟩ : ∃ n', n = n' + 1 := ⟨n - 1, by omega⟩
        rw [open_]
        have ek : (some k : Option Int) = some ((k.toNat : Nat) : Int) := by rw [Int.toNat_of_nonneg k0]
        rw [ek, hgo n' (by omega), List.reverse_append, List.append_assoc]
        rfl
theorem pathTo_ok {fl : Flo} {cl : List Int} {T : Int → Option (Option Int)} {starts : List Int} {st : XSt} (h : XOk fl cl T starts st) {i : Int} {s : Sp2} (h0 : 0 ≤ i) (hs : st.1[i.toNat]? = some s) :
    PathOk fl cl T starts (pathTo st.1 st.2 i) ∧ (pathTo st.1 st.2 i).getLast? = some s := by
  obtain ⟨l, P, hlast, _, hgo⟩ := path_of h i.toNat i.toNat (Nat.le_refl _) (List.getElem?_eq_some_iff.mp hs).1
  have e : pathTo st.1 st.2 i = l := by
    unfold pathTo
    have ei : (some i : Option Int) = some ((i.toNat : Nat) : Int) := by rw [Int.toNat_of_nonneg h0]
    rw [ei, hgo _ (by omega), List.nil_append, List.reverse_reverse]
  rw [e]
  exact ⟨P, by rw [hlast, hs]⟩
/-! ### what a move does -/
section
variable {fl : Flo} {cl : List Int} {ws : List (List Int)} {starts : List Int}
/-- from an inner spot -/
theorem next_false {T : Int → Option (Option Int)} {c : Int} {t : Sp2} (h : t ∈ nextSpots fl cl T (c, false)) : (T c = none ∧ t = (c, true)) ∨ ∃ b, T c = some (some b) ∧ t = (b, true) := by
  unfold nextSpots at h
  rw [if_neg Bool.false_ne_true] at h
  dsimp only at h
  cases e : T c with
  | none =>
    rw [e] at h
    exact .inl ⟨rfl, List.mem_singleton.mp h⟩
  | some o =>
    rw [e] at h
    cases o with
    | none => cases h
    | some b => exact .inr ⟨b, rfl, List.mem_singleton.mp h⟩
theorem next_true {T : Int → Option (Option Int)} {c : Int} {t : Sp2} (h : t ∈ nextSpots fl cl T (c, true)) : t.2 = false := by
  unfold nextSpots at h
  rw [if_pos rfl] at h
  rcases List.mem_append.mp h with h | h
  · obtain ⟨o, _, rfl⟩ := List.mem_map.mp h
    rfl
  · split at h
    · rw [List.mem_singleton.mp h]
    · cases h
/-- what a path takes out is there -/
theorem chOk_go {T : Int → Option (Option Int)} : ∀ {l : List Sp2} {k : List Lk}, Chn (nextSpots fl cl T) l → l.Nodup → (∀ c b, (c, false) ∈ l → T c = some (some b) → (b, c) ∈ k) → chOk k l
  | [], _, _, _, _ => trivial
  | [_], _, _, _, _ => trivial
  | s :: t :: r, k, ⟨h1, h2⟩, nd, hk => by
    obtain ⟨n1, n2⟩ := List.nodup_cons.mp nd
    obtain ⟨sc, sb⟩ := s
    cases sb with
    | true =>
      refine ⟨.inr (.inl rfl), chOk_go h2 n2 fun c b hc e => ?_⟩
      have := hk c b (List.mem_cons_of_mem _ hc) e
      unfold chStep
      split
      · exact this
      · rw [if_pos rfl]
        exact List.mem_append_left _ this
    | false =>
      rcases next_false h1 with ⟨e1, rfl⟩ | ⟨b0, e1, rfl⟩
      · refine ⟨.inl rfl, chOk_go h2 n2 fun c b hc e => ?_⟩
        unfold chStep
        rw [if_pos rfl]
        exact hk c b (List.mem_cons_of_mem _ hc) e
      · refine ⟨.inr (.inr (hk sc b0 List.mem_cons_self e1)), chOk_go h2 n2 fun c b hc e => ?_⟩
        have hm := hk c b (List.mem_cons_of_mem _ hc) e
        unfold chStep
        split
        · exact hm
        · rw [if_neg Bool.false_ne_true]
          refine (mem_eraseD fun z => ?_).mpr hm
          have e2 : c = sc := congrArg Prod.snd z
          rw [e2] at hc
          exact n1 hc
theorem chOk_of {l : List Sp2} (P : PathOk fl cl (aheadT ws) starts l) : chOk (linksOf ws) l := chOk_go P.ch P.nd fun c b _ e => (ahead_mem e).2 b rfl
/-! ### links into a cell -/
def inC (k : List Lk) (b : Int) : Nat := k.countP fun l => decide (l.2 = b)
theorem inC_snoc (k : List Lk) (x y b : Int) : inC (k ++ [(x, y)]) b = inC k b + if y = b then 1 else 0 := by
  unfold inC
  rw [List.countP_append, List.countP_cons, List.countP_nil]
  by_cases e : y = b
  · simp [e]
  · simp [e]
theorem inC_erase {k : List Lk} {x y : Int} (b : Int) (h : (x, y) ∈ k) : inC (eraseD k (x, y)) b + (if y = b then 1 else 0) = inC k b := by
  unfold inC
  rw [(perm_eraseD h).countP_eq, List.countP_cons]
  by_cases e : y = b
  · simp [e]
  · simp [e]
variable {T : Int → Option (Option Int)}
theorem inC_out : ∀ {l : List Sp2} {k : List Lk} {b : Int}, Chn (nextSpots fl cl T) l → chOk k l → (b, false) ∉ l → inC (chGo k l) b = inC k b
  | [], _, _, _, _, _ => rfl
  | [_], _, _, _, _, _ => rfl
  | s :: t :: r, k, b, ⟨h1, h2⟩, ⟨o1, o2⟩, hb => by
    have hb2 : (b, false) ∉ t :: r := fun z => hb (List.mem_cons_of_mem _ z)
    have ih := inC_out (b := b) h2 o2 hb2
    show inC (chGo (chStep k s t) (t :: r)) b = _
    rw [ih]
    unfold chStep
    split
    · rfl
    · next hne =>
      obtain ⟨sc, sb⟩ := s
      cases sb with
      | true =>
        rw [if_pos rfl]
        have ht := next_true h1
        rw [inC_snoc, if_neg, Nat.add_zero]
        intro z
        refine hb2 ?_
        have : t = (b, false) := Prod.ext z ht
        rw [this]
        exact List.mem_cons_self
      | false =>
        rw [if_neg Bool.false_ne_true]
        have hm : (t.1, sc) ∈ k := (o1.resolve_left hne).resolve_left (fun z => nomatch z)
        have q := inC_erase b hm
        rw [if_neg, Nat.add_zero] at q
        · exact q
        · intro z
          subst z
          exact hb List.mem_cons_self
theorem inC_at {r : List Sp2} {k : List Lk} {b : Int} (hc : Chn (nextSpots fl cl T) ((b, false) :: r)) (ho : chOk k ((b, false) :: r)) (nd : ((b, false) :: r).Nodup) (hr : r ≠ []) (hT : ∀ a, T b = some (some a) → a ≠ b) :
    (T b = none ∧ inC (chGo k ((b, false) :: r)) b = inC k b) ∨ (∃ a, T b = some (some a) ∧ inC (chGo k ((b, false) :: r)) b + 1 = inC k b) := by
  cases r with
  | nil => exact absurd rfl hr
  | cons t r =>
    obtain ⟨h1, h2⟩ := hc
    obtain ⟨o1, o2⟩ := ho
    obtain ⟨n1, n2⟩ := List.nodup_cons.mp nd
    have e := inC_out (b := b) h2 o2 n1
    show (T b = none ∧ inC (chGo (chStep k (b, false) t) (t :: r)) b = inC k b) ∨ (∃ a, T b = some (some a) ∧ inC (chGo (chStep k (b, false) t) (t :: r)) b + 1 = inC k b)
    rw [e]
    rcases next_false h1 with ⟨e1, rfl⟩ | ⟨a, e1, rfl⟩
    · refine .inl ⟨e1, ?_⟩
      unfold chStep
      rw [if_pos rfl]
    · refine .inr ⟨a, e1, ?_⟩
      have hne : ¬ b = a := fun z => hT a e1 z.symm
      have hm : (a, b) ∈ k := (o1.resolve_left hne).resolve_left (fun z => nomatch z)
      unfold chStep
      rw [if_neg hne, if_neg Bool.false_ne_true]
      have q := inC_erase b hm
      rw [if_pos rfl] at q
      exact q
theorem inC_in : ∀ {l : List Sp2} {k : List Lk} {b : Int} {s : Sp2}, Chn (nextSpots fl cl T) (s :: l) → chOk k (s :: l) → (s :: l).Nodup → (b, false) ∈ l → (∃ c, (s :: l).getLast? = some (c, true)) → (∀ a, T b = some (some a) → a ≠ b) →
    (T b = none ∧ inC (chGo k (s :: l)) b ≤ inC k b + 1) ∨ (∃ a, T b = some (some a) ∧ inC (chGo k (s :: l)) b ≤ inC k b)
  | [], _, _, _, _, _, _, hb, _, _ => by cases hb
  | t :: r, k, b, s, ⟨h1, h2⟩, ⟨o1, o2⟩, nd, hb, ⟨cE, hE⟩, hT => by
    obtain ⟨n1, n2⟩ := List.nodup_cons.mp nd
    have hE2 : (t :: r).getLast? = some (cE, true) := by rw [List.getLast?_cons_cons] at hE; exact hE
    have step : inC (chStep k s t) b ≤ inC k b + (if t.1 = b ∧ t.2 = false then 1 else 0) := by
      unfold chStep
      split
      · exact Nat.le_add_right _ _
      · next hne =>
        obtain ⟨sc, sb⟩ := s
        cases sb with
        | true =>
          rw [if_pos rfl, inC_snoc, next_true h1]
          by_cases z : t.1 = b
          · simp [z]
          · simp [z]
        | false =>
          rw [if_neg Bool.false_ne_true]
          have hm : (t.1, sc) ∈ k := (o1.resolve_left hne).resolve_left (fun z => nomatch z)
          have q := inC_erase b hm
          show inC (eraseD k (t.1, sc)) b ≤ _
          omega
    by_cases ht : t = (b, false)
    · subst ht
      have hr : r ≠ [] := fun z => by
        subst z
        cases hE2
      rw [if_pos ⟨rfl, rfl⟩] at step
      rcases inC_at h2 o2 n2 hr hT with ⟨e1, e2⟩ | ⟨a, e1, e2⟩
      · refine .inl ⟨e1, ?_⟩
        show inC (chGo (chStep k s (b, false)) ((b, false) :: r)) b ≤ _
        omega
      · refine .inr ⟨a, e1, ?_⟩
        show inC (chGo (chStep k s (b, false)) ((b, false) :: r)) b ≤ _
        omega
    · have hb2 : (b, false) ∈ r := (List.mem_cons.mp hb).resolve_left fun z => ht z.symm
      have step2 : inC (chStep k s t) b ≤ inC k b := by
        rw [if_neg (fun z => ht (Prod.ext z.1 z.2))] at step
        exact step
      rcases inC_in h2 o2 n2 hb2 ⟨cE, hE2⟩ hT with ⟨e1, e2⟩ | ⟨a, e1, e2⟩
      · exact .inl ⟨e1, Nat.le_trans e2 (by omega)⟩
      · exact .inr ⟨a, e1, Nat.le_trans e2 step2⟩
end
end Fl

set_option Elab.async false
set_option linter.all false
set_option maxRecDepth 100000
set_option maxHeartbeats 4000000
namespace Fl
open PySem PySem.Spec PyProof.Rows L2
structure WaysOk (fl : Flo) (ws : List (List Int)) : Prop where
  nd : ws.flatten.Nodup
  ne : ∀ w ∈ ws, w ≠ []
  cells : ∀ c ∈ ws.flatten, 0 ≤ c ∧ c < fl.size
theorem WaysOk.few {fl : Flo} {ws : List (List Int)} (h : WaysOk fl ws) : ws.flatten.length ≤ fl.near.length := nodup_few _ _ h.nd h.cells
abbrev hdsOf (ws : List (List Int)) : List Int := ws.map fun w => w.headD 0
theorem inC_app (k l : List Lk) (b : Int) : inC (k ++ l) b = inC k b + inC l b := by
  unfold inC
  exact List.countP_append ..
theorem inC_pairs (x : Int) (t : List Int) (b : Int) : inC (pairsOf (x :: t)) b = t.count b := by
  have e : (pairsOf (x :: t)).map (·.2) = t := by
    unfold pairsOf
    exact List.map_snd_zip (by rw [List.length_tail, List.length_cons]; omega)
  unfold inC
  have q : (pairsOf (x :: t)).countP (fun l => decide (l.2 = b)) = ((pairsOf (x :: t)).map (·.2)).countP (fun z => z == b) := by
    rw [List.countP_map]
    refine List.countP_congr fun l _ => ?_
    show decide (l.2 = b) = true ↔ (l.2 == b) = true
    rw [decide_eq_true_iff, beq_iff_eq]
  rw [q, e]
  rfl
theorem in_heads : ∀ ws : List (List Int), (∀ w ∈ ws, w ≠ []) → ∀ b, inC (linksOf ws) b + (hdsOf ws).count b = ws.flatten.count b
  | [], _, b => rfl
  | w :: ws, ne, b => by
    have ih := in_heads ws (fun w hw => ne w (List.mem_cons_of_mem _ hw)) b
    cases w with
    | nil => exact absurd rfl (ne [] List.mem_cons_self)
    | cons x t =>
      have e1 : linksOf ((x :: t) :: ws) = pairsOf (x :: t) ++ linksOf ws := rfl
      have e2 : hdsOf ((x :: t) :: ws) = x :: hdsOf ws := rfl
      rw [e1, e2, inC_app, inC_pairs, List.flatten_cons, List.count_append, List.count_cons, List.count_cons]
      omega
theorem count_one {b : Int} : ∀ {xs : List Int}, xs.Nodup → xs.count b ≤ 1
  | [], _ => Nat.zero_le _
  | x :: r, nd => by
    obtain ⟨h1, h2⟩ := List.nodup_cons.mp nd
    have ih := count_one (b := b) h2
    rw [List.count_cons]
    by_cases e : x = b
    · subst e
      rw [List.count_eq_zero.mpr h1]
      simp
    · rw [if_neg (by rw [beq_iff_eq]; exact e)]
      omega
theorem nodup_of_count : ∀ {xs : List Int}, (∀ b, xs.count b ≤ 1) → xs.Nodup
  | [], _ => List.nodup_nil
  | x :: r, h => by
    refine List.nodup_cons.mpr ⟨fun z => ?_, nodup_of_count fun b => Nat.le_trans (by rw [List.count_cons]; omega) (h b)⟩
    have h1 := h x
    have h2 := List.count_pos_iff.mpr z
    rw [List.count_cons_self] at h1
    omega
/-! the table, once more -/
theorem atGo_some : ∀ (w : List Int) (f : Int → Option (Option Int)) (b : Option Int) (c : Int), ((f c).isSome = true ∨ c ∈ w) → (atGo f b w c).isSome = true
  | [], f, b, c, h => h.resolve_right (fun z => nomatch z)
  | x :: r, f, b, c, h => by
    refine atGo_some r _ _ c ?_
    by_cases e : c = x
    · exact .inl (by rw [if_pos e]; rfl)
    · rcases h with h | h
      · exact .inl (by rw [if_neg e]; exact h)
      · exact .inr ((List.mem_cons.mp h).resolve_left e)
theorem aheadGo_some : ∀ (ws : List (List Int)) (f : Int → Option (Option Int)) (c : Int), ((f c).isSome = true ∨ c ∈ ws.flatten) → (aheadGo f ws c).isSome = true
  | [], f, c, h => h.resolve_right (fun z => nomatch z)
  | w :: r, f, c, h => by
    refine aheadGo_some r _ c ?_
    rcases h with h | h
    · exact .inl (atGo_some w f none c (.inl h))
    · rw [List.flatten_cons] at h
      rcases List.mem_append.mp h with h | h
      · exact .inl (atGo_some w f none c (.inr h))
      · exact .inr h
theorem ahead_none {ws : List (List Int)} {c : Int} (h : aheadT ws c = none) : c ∉ ws.flatten := fun z => by
  have := aheadGo_some ws (fun _ => none) c (.inr z)
  unfold aheadT at h
  rw [h] at this
  cases this
theorem pairs_ne {w : List Int} {l : Lk} (nd : w.Nodup) (h : l ∈ pairsOf w) : l.1 ≠ l.2 := fun z => by
  obtain ⟨i, hi⟩ := List.getElem?_of_mem h
  unfold pairsOf at hi
  rw [show l = (l.1, l.2) from rfl, List.getElem?_zip_eq_some] at hi
  obtain ⟨h1, h2⟩ := hi
  rw [List.getElem?_tail] at h2
  dsimp only at h1 h2
  rw [z] at h1
  have := nodup_at nd h1 h2
  omega
theorem links_ne {ws : List (List Int)} {l : Lk} (nd : ws.flatten.Nodup) (h : l ∈ linksOf ws) : l.1 ≠ l.2 := by
  unfold linksOf at h
  obtain ⟨q, hq, hl⟩ := List.mem_flatten.mp h
  obtain ⟨w, hw, rfl⟩ := List.mem_map.mp hq
  have hn : w.Nodup := by
    have := (List.pairwise_flatten.mp nd).1 w hw
    exact this
  exact pairs_ne hn hl
theorem inC_pos {k : List Lk} {a b : Int} (h : (a, b) ∈ k) : 1 ≤ inC k b := by
  unfold inC
  exact List.countP_pos_iff.mpr ⟨(a, b), h, decide_eq_true rfl⟩
section
variable {fl : Flo} {cl : List Int} {ws : List (List Int)} {starts : List Int} {path : List Sp2}
/-- each cell has at most one link into it, and a beginning none -/
theorem one_in (W : WaysOk fl ws) (P : PathOk fl cl (aheadT ws) starts path) (hl : ∃ c, path.getLast? = some (c, true)) (b : Int) : inC (chGo (linksOf ws) path) b + (hdsOf ws ++ [(path.headD (0, false)).1]).count b ≤ 1 := by
  have ho := chOk_of P
  have old := in_heads ws W.ne b
  have c1 := count_one (b := b) W.nd
  have hT : ∀ a, aheadT ws b = some (some a) → a ≠ b := fun a e => links_ne W.nd ((ahead_mem e).2 a rfl)
  have hN : aheadT ws b = none → ws.flatten.count b = 0 := fun e => List.count_eq_zero.mpr (ahead_none e)
  have hS : ∀ a, aheadT ws b = some (some a) → 1 ≤ inC (linksOf ws) b := fun a e => inC_pos ((ahead_mem e).2 a rfl)
  obtain ⟨f, r, hp, _⟩ := P.hd
  obtain ⟨cE, hE⟩ := hl
  rw [hp] at hE ho ⊢
  have ch := P.ch
  have nd := P.nd
  rw [hp] at ch nd
  rw [List.count_append]
  show inC (chGo (linksOf ws) ((f, false) :: r)) b + ((hdsOf ws).count b + [f].count b) ≤ 1
  have hr : r ≠ [] := fun z => by
    subst z
    cases hE
  by_cases e : f = b
  · subst e
    have e1 : [f].count f = 1 := by simp
    rw [e1]
    rcases inC_at ch ho nd hr hT with ⟨e1, e2⟩ | ⟨a, e1, e2⟩
    · have := hN e1
      omega
    · have := hS a e1
      omega
  · have e1 : [f].count b = 0 := by simp [e]
    rw [e1]
    by_cases hb : (b, false) ∈ r
    · rcases inC_in ch ho nd hb ⟨cE, hE⟩ hT with ⟨e1, e2⟩ | ⟨a, e1, e2⟩
      · have := hN e1
        omega
      · omega
    · have := inC_out ch ho (b := b) fun z => by
        rcases List.mem_cons.mp z with z | z
        · exact e (congrArg Prod.fst z).symm
        · exact hb z
      omega
end
/-! ### following -/
theorem tblGo_mem : ∀ (L : List Lk) (f : Int → Option Int) (x y : Int), tblGo f L x = some y → f x = some y ∨ (x, y) ∈ L
  | [], f, x, y, h => .inl h
  | l :: r, f, x, y, h => by
    rcases tblGo_mem r _ x y h with h | h
    · by_cases e : x = l.1
      · rw [if_pos e] at h
        have e2 : l.2 = y := Option.some.inj h
        exact .inr (by rw [e, ← e2]; exact List.mem_cons_self)
      · rw [if_neg e] at h
        exact .inl h
    · exact .inr (List.mem_cons_of_mem _ h)
theorem tbl_mem {L : List Lk} {x y : Int} (h : tblOf L x = some y) : (x, y) ∈ L := (tblGo_mem L _ x y h).resolve_left (fun z => nomatch z)
theorem inC_two {k : List Lk} {x x' y : Int} (h : inC k y ≤ 1) (h1 : (x, y) ∈ k) (h2 : (x', y) ∈ k) : x = x' := by
  by_cases e : x = x'
  · exact e
  · exfalso
    have p := perm_eraseD h1
    have h3 : (x', y) ∈ eraseD k (x, y) := (mem_eraseD (fun z => e (congrArg Prod.fst z).symm)).mpr h2
    have q := inC_erase y h1
    have := inC_pos h3
    rw [if_pos rfl] at q
    omega
def Fch (f : Int → Option Int) (w : List Int) : Prop := ∀ (i : Nat) (y : Int), w[i + 1]? = some y → ∃ x, w[i]? = some x ∧ f x = some y
theorem folGo_ch {f : Int → Option Int} : ∀ (n : Nat) (w : List Int) (x : Int), w.getLast? = some x → Fch f w → Fch f (folGo f n w x) ∧ (folGo f n w x)[0]? = w[0]? ∧ ∀ z ∈ folGo f n w x, z ∈ w ∨ ∃ u, f u = some z
  | 0, w, x, _, h => ⟨h, rfl, fun z hz => .inl hz⟩
  | n + 1, w, x, hl, h => by
    unfold folGo
    cases e : f x with
    | none => exact ⟨h, rfl, fun z hz => .inl hz⟩
    | some y =>
      have hne : w ≠ [] := fun z => by rw [z] at hl; cases hl
      obtain ⟨a, b, c⟩ := folGo_ch n (w ++ [y]) y (by simp) fun i z hz => by
        rcases snoc_at hz with hz | ⟨e1, e2⟩
        · obtain ⟨u, h1, h2⟩ := h i z hz
          exact ⟨u, snoc_old h1, h2⟩
        · refine ⟨x, snoc_old ?_, by rw [← e2]; exact e⟩
          rw [List.getLast?_eq_getElem?] at hl
          rw [show i = w.length - 1 by omega]
          exact hl
      refine ⟨a, ?_, fun z hz => ?_⟩
      · rw [b, List.getElem?_append_left (List.length_pos_iff.mpr hne)]
      · rcases c z hz with hz | hz
        · rcases List.mem_append.mp hz with hz | hz
          · exact .inl hz
          · rw [List.mem_singleton.mp hz]
            exact .inr ⟨x, e⟩
        · exact .inr hz
theorem follow_ch (L : List Lk) (x : Int) : Fch (tblOf L) (follow L x) ∧ (follow L x)[0]? = some x ∧ ∀ z ∈ follow L x, z = x ∨ ∃ u, (u, z) ∈ L := by
  obtain ⟨a, b, c⟩ := folGo_ch (f := tblOf L) L.length [x] x rfl fun i y h => by
    have := (List.getElem?_eq_some_iff.mp h).1
    rw [List.length_singleton] at this
    omega
  refine ⟨a, b, fun z hz => ?_⟩
  rcases c z hz with h | ⟨u, h⟩
  · exact .inl (List.mem_singleton.mp h)
  · exact .inr ⟨u, tbl_mem h⟩
theorem follow_ne (L : List Lk) (x : Int) : follow L x ≠ [] := folGo_ne' _ _ _ (by simp)
where folGo_ne' {f : Int → Option Int} : ∀ (n : Nat) (w : List Int) (x : Int), w ≠ [] → folGo f n w x ≠ []
  | 0, _, _, h => h
  | n + 1, w, x, h => by
    unfold folGo
    cases f x with
    | none => exact h
    | some y => exact folGo_ne' n _ y (by simp)
/-- two ways never meet -/
theorem meet {K : List Lk} {hs : List Int} (one : ∀ b, inC K b + hs.count b ≤ 1) {w1 w2 : List Int} {h1 h2 : Int} (c1 : Fch (tblOf K) w1) (c2 : Fch (tblOf K) w2) (e1 : w1[0]? = some h1) (e2 : w2[0]? = some h2) (m1 : h1 ∈ hs) (m2 : h2 ∈ hs) :
    ∀ (i j : Nat) (x : Int), w1[i]? = some x → w2[j]? = some x → i = j ∧ h1 = h2 := by
  have noIn : ∀ x y : Int, y ∈ hs → tblOf K x ≠ some y := fun x y hy e => by
    have a := inC_pos (tbl_mem e)
    have b := List.count_pos_iff.mpr hy
    have := one y
    omega
  intro i
  induction i with
  | zero =>
    intro j x a b
    rw [e1] at a
    cases a
    cases j with
    | zero =>
      rw [e2] at b
      exact ⟨rfl, (Option.some.inj b).symm⟩
    | succ j =>
      obtain ⟨u, _, hu⟩ := c2 j _ b
      exact absurd hu (noIn u _ m1)
  | succ i ih =>
    intro j x a b
    obtain ⟨u, hu1, hu2⟩ := c1 i _ a
    cases j with
    | zero =>
      rw [e2] at b
      cases b
      exact absurd hu2 (noIn u _ m2)
    | succ j =>
      obtain ⟨v, hv1, hv2⟩ := c2 j _ b
      have euv : u = v := inC_two (by have := one x; omega) (tbl_mem hu2) (tbl_mem hv2)
      subst euv
      obtain ⟨p, q⟩ := ih j u hu1 hv1
      exact ⟨by omega, q⟩
theorem ways_nodup {K : List Lk} {hs : List Int} (one : ∀ b, inC K b + hs.count b ≤ 1) : (hs.map (follow K)).flatten.Nodup := by
  have hn : hs.Nodup := nodup_of_count fun b => by have := one b; omega
  refine List.pairwise_flatten.mpr ⟨fun w hw => ?_, ?_⟩
  · obtain ⟨h, hm, rfl⟩ := List.mem_map.mp hw
    obtain ⟨a, b, _⟩ := follow_ch K h
    refine List.pairwise_iff_getElem.mpr fun i j hi hj hij e => ?_
    have := (meet one a a b b hm hm i j _ (List.getElem?_eq_getElem hi) (by rw [e]; exact List.getElem?_eq_getElem hj)).1
    omega
  · rw [List.pairwise_map]
    refine List.Pairwise.imp_of_mem (fun {h1 h2} m1 m2 ne => ?_) hn
    intro x hx y hy e
    subst e
    obtain ⟨a, b, _⟩ := follow_ch K h1
    obtain ⟨a', b', _⟩ := follow_ch K h2
    obtain ⟨i, hi⟩ := List.getElem?_of_mem hx
    obtain ⟨j, hj⟩ := List.getElem?_of_mem hy
    exact ne (meet one a a' b b' m1 m2 i j x hi hj).2
theorem mem_of_eraseD {α : Type} [DecidableEq α] {k : List α} {a b : α} (h : a ∈ eraseD k b) : a ∈ k := List.mem_of_mem_erase h
theorem chGo_mem : ∀ (path : List Sp2) (k : List Lk) (l : Lk), l ∈ chGo k path → l ∈ k ∨ ∃ s ∈ path, ∃ t ∈ path, l = (s.1, t.1)
  | [], k, l, h => .inl h
  | [_], k, l, h => .inl h
  | s :: t :: r, k, l, h => by
    rcases chGo_mem (t :: r) (chStep k s t) l h with h | ⟨s', h1, t', h2, e⟩
    · unfold chStep at h
      split at h
      · exact .inl h
      · split at h
        · rcases List.mem_append.mp h with h | h
          · exact .inl h
          · exact .inr ⟨s, List.mem_cons_self, t, List.mem_cons_of_mem _ List.mem_cons_self, List.mem_singleton.mp h⟩
        · exact .inl (mem_of_eraseD h)
    · exact .inr ⟨s', List.mem_cons_of_mem _ h1, t', List.mem_cons_of_mem _ h2, e⟩
theorem newWays_ok {fl : Flo} {cl : List Int} {ws : List (List Int)} {starts : List Int} {path : List Sp2} (W : WaysOk fl ws) (P : PathOk fl cl (aheadT ws) starts path) (hl : ∃ c, path.getLast? = some (c, true)) : WaysOk fl (newWays ws path) := by
  refine ⟨ways_nodup (one_in W P hl), fun w hw => ?_, fun c hc => ?_⟩
  · obtain ⟨h, _, rfl⟩ := List.mem_map.mp hw
    exact follow_ne _ _
  · obtain ⟨w, hw, hcw⟩ := List.mem_flatten.mp hc
    obtain ⟨h, hm, rfl⟩ := List.mem_map.mp hw
    rcases (follow_ch _ h).2.2 c hcw with e | ⟨u, hu⟩
    · subst e
      rcases List.mem_append.mp hm with hm | hm
      · obtain ⟨w, hw, e⟩ := List.mem_map.mp hm
        refine W.cells c (List.mem_flatten.mpr ⟨w, hw, ?_⟩)
        cases hwe : w with
        | nil => exact absurd hwe (W.ne w hw)
        | cons a t =>
          rw [hwe] at e
          have e : a = c := e
          rw [e]
          exact List.mem_cons_self
      · obtain ⟨f, r, hp, _⟩ := P.hd
        rw [List.mem_singleton.mp hm, hp]
        exact P.rng (f, false) (by rw [hp]; exact List.mem_cons_self)
    · rcases chGo_mem path _ _ hu with h | ⟨s, _, t, ht, e⟩
      · exact W.cells c (links_in h).2
      · have e2 : c = t.1 := congrArg Prod.snd e
        rw [e2]
        exact P.rng t ht
theorem newWays_len (ws : List (List Int)) (path : List Sp2) : (newWays ws path).length = ws.length + 1 := by
  unfold newWays
  rw [List.length_map, List.length_append, List.length_map]
  rfl
end Fl

set_option Elab.async false
set_option linter.all false
set_option maxRecDepth 100000
set_option maxHeartbeats 4000000
namespace Fl
open PySem PySem.Spec PyProof.Rows L2
def goalAt (goals : List Int) (q : Int × Sp2) : Bool := q.2.2 && decide (q.2.1 ∈ goals)
def findPath (fl : Flo) (cl : List Int) (ws : List (List Int)) (starts goals : List Int) : Option (List Sp2) :=
  ((enumI (explore fl cl ws starts).1).find? (goalAt goals)).map fun q => pathTo (explore fl cl ws starts).1 (explore fl cl ws starts).2 q.1
def searchCut (fl : Flo) (cl : List Int) (ws : List (List Int)) (starts : List Int) : List Int :=
  (rangeI 0 fl.near.length).filter fun z => memD (z, false) (explore fl cl ws starts).1 && !memD (z, true) (explore fl cl ws starts).1
def addWay (fl : Flo) (cl : List Int) (ws : List (List Int)) (cell : Int) : Option (List (List Int)) := (findPath fl cl ws [cell] fl.doors).map (newWays ws)
def GoodPath (fl : Flo) (cl : List Int) (ws : List (List Int)) (starts : List Int) (o : Option (List Sp2)) : Prop := ∀ p, o = some p → PathOk fl cl (aheadT ws) starts p ∧ ∃ z, p.getLast? = some (z, true)
theorem PathOk.short {fl : Flo} {cl : List Int} {T : Int → Option (Option Int)} {starts : List Int} {l : List Sp2} (h : PathOk fl cl T starts l) : l.length ≤ 2 * fl.near.length := code_few h.nd h.rng
theorem preNw_of {fl : Flo} {cl : List Int} {ws : List (List Int)} {starts : List Int} {p : List Sp2} (ok : fl.Ok) (W : WaysOk fl ws) (P : PathOk fl cl (aheadT ws) starts p) : PreNw ws p :=
  ⟨by have := W.few; have := ok.small; omega, by have := P.short; have := ok.small; omega, W.ne, P.ne, chOk_of P⟩
section
variable [c : Ctx]
structure PreF (fl : Flo) (ws : List (List Int)) (starts : List Int) : Prop where
  ok : fl.Ok
  ways : WaysOk fl ws
  starts : ∀ z ∈ starts, 0 ≤ z ∧ z < fl.size
theorem PreF.x {fl : Flo} {ws : List (List Int)} {starts : List Int} (h : PreF fl ws starts) : PreX fl ws starts := ⟨h.ok, by have := h.ways.few; have := h.ok.small; omega, h.ways.cells, h.starts⟩
theorem cal_find_path : Cal "find_path" 3 (Spc (fun a : Flo × List Int × List (List Int) × List Int × List Int × Unit => PreF a.1 a.2.2.1 a.2.2.2.1) fun a y => y = findPath a.1 a.2.1 a.2.2.1 a.2.2.2.1 a.2.2.2.2.1 ∧ GoodPath a.1 a.2.1 a.2.2.1 a.2.2.2.1 y) := by
  refine mkCal (d := d_find_path) i_find_path sc_find_path g_find_path (fun f cdv A outer s S a Q E hp hX hq => ?_) (hb := fun _ _ _ _ _ _ us hl => match us, hl with | [_, _, _, _, _], _ => rfl)
  obtain ⟨fl, cl, ws, sts, gs, ⟨⟩⟩ := a
  have hp : PreF fl ws sts := hp
  replace hq : ∀ S1 r y, Grow S S1 → Rp.rep S1.G r y → (y = findPath fl cl ws sts gs ∧ GoodPath fl cl ws sts y) → Q r S1.H := hq
  have nd := sc_find_path.nd
  have hsm := hp.ok.small
  show SB _ _ _ [some ⟨fl⟩, some ⟨cl⟩, some ⟨ws⟩, some ⟨sts⟩, some ⟨gs⟩, none, none, none, none, none] S
  refine s_asgV (ev_call cal_explore (u := (fl, cl, ws, sts, ())) (ar_cons (er_var 0) (ar_cons (er_var 1) (ar_cons (er_var 2) (ar_cons (er_var 3) ar_nil)))) hp.x) (bg_pair rfl (bg_name 5 nd) (bg_name 6 nd)) fun S1 st g1 hst => ?_
  obtain ⟨est, xo⟩ : st = explore fl cl ws sts ∧ XOk fl cl (aheadT ws) sts st := hst
  have hfew := xo.few
  refine s_for (α := Int) PassesOwn.never rfl (it_range b_range (er_len b_len (er_var 5)) (by omega)) (bg_name 7 nd) fun S2 g2 => ?_
  refine ⟨fun r Γ' S' => Γ' = [some ⟨fl⟩, some ⟨cl⟩, some ⟨ws⟩, some ⟨sts⟩, some ⟨gs⟩, some ⟨st.1⟩, some ⟨st.2⟩, none, none, none] ∧ Grow S S' ∧ Same S2.G S'.G ∧ (enumI st.1).find? (goalAt gs) = ((enumI st.1).drop (((st.1.length : Nat) : Int).toNat - r.length)).find? (goalAt gs),
    ⟨rfl, g1.trans g2, Same.refl _, by rw [rangeI_len, Nat.sub_self]; rfl⟩, fun r Γ' S' ⟨_, _, h, _⟩ => h, ?_, ?_⟩
  · rintro pre x r Γ' S' hx ⟨rfl, gS, s2, hf⟩ S3 g3
    obtain ⟨ei, hlt⟩ := rangeI_at hx
    obtain ⟨j, hj⟩ : ∃ j : Nat, j = ((st.1.length : Nat) : Int).toNat - (r.length + 1) := ⟨_, rfl⟩
    have e0 : x = (j : Int) := by rw [hj]; exact ei
    have hjw : j < st.1.length := by omega
    obtain ⟨z, hz⟩ : ∃ z, st.1[j]? = some z := ⟨_, List.getElem?_eq_getElem hjw⟩
    have ed : (enumI st.1).drop j = ((j : Int), z) :: (enumI st.1).drop (j + 1) := by
      rw [List.drop_eq_getElem_cons (by rw [enumI_len]; exact hjw)]
      congr 1
      have := enumI_get hz
      rw [List.getElem?_eq_getElem (by rw [enumI_len]; exact hjw)] at this
      exact Option.some.inj this
    rw [List.length_cons, ← hj, ed, List.find?_cons] at hf
    refine s_asg (x := z) (er_ix (er_var 5) (er_var 7) (by omega) (by rw [e0, Int.toNat_natCast]; exact hz)) (bg_pair rfl (bg_name 8 nd) (bg_name 9 nd)) fun S4 g4 => ?_
    refine s_if (tr_and (p2 := default) (tr_bool (er_var 9)) fun _ => tr_cmp (cv_inL (er_var 8) (er_var 4))) (fun t S5 g5 => ?_) (fun t S5 g5 => s_end (s_next (.keep (.keep (.keep (.keep (.keep (.keep (.keep (.drop (.drop (.drop .nil)))))))))) ?_))
    · have t : goalAt gs ((j : Int), z) = true := t
      rw [t] at hf
      have hzt : z.2 = true := by
        have := Bool.and_eq_true_iff.mp t
        exact this.1
      obtain ⟨P, hlast⟩ := pathTo_ok xo (i := (j : Int)) (by omega) (by rw [Int.toNat_natCast]; exact hz)
      refine s_ret (er_some (er_call cal_path_to (u := (st.1, st.2, x, ())) (ar_cons (er_var 5) (ar_cons (er_var 6) (ar_cons (er_var 7) ar_nil))) ⟨xo.len, by show st.1.length ≤ 1000; omega, fun j k e => ⟨(xo.dn j k e).1, (xo.dn j k e).2.1⟩, by show 0 ≤ x; omega, by show x < (st.1.length : Int); omega⟩)) fun S6 v g6 rv => hq S6 v _ ((((gS.trans g3).trans g4).trans g5).trans g6) rv ⟨?_, ?_⟩
      · unfold findPath
        rw [← est, hf, e0]
        rfl
      · intro p hp
        have : p = pathTo st.1 st.2 x := (Option.some.inj hp).symm
        rw [this, e0]
        exact ⟨P, z.1, by rw [hlast, ← hzt]⟩
    · have t : goalAt gs ((j : Int), z) = false := t
      rw [t] at hf
      refine ⟨rfl, ((gS.trans g3).trans g4).trans g5, s2.trans ((g3.trans g4).trans g5).g, ?_⟩
      rw [show ((st.1.length : Nat) : Int).toNat - r.length = j + 1 by omega]
      exact hf
  · rintro Γ' S' ⟨rfl, gS, _, hf⟩
    rw [List.length_nil, Nat.sub_zero, List.drop_of_length_le (by rw [enumI_len]; omega)] at hf
    refine s_ret (x := (none : Option (List Sp2))) er_non fun S6 v g6 rv => hq S6 v _ (gS.trans g6) rv ⟨?_, fun p hp => nomatch hp⟩
    unfold findPath
    rw [← est, hf]
    rfl
theorem cal_search_cut : Cal "search_cut" 3 (Spf (fun a : Flo × List Int × List (List Int) × List Int × Unit => PreF a.1 a.2.2.1 a.2.2.2.1) fun a => searchCut a.1 a.2.1 a.2.2.1 a.2.2.2.1) := by
  refine mkCal (d := d_search_cut) i_search_cut sc_search_cut g_search_cut (fun f cdv A outer s S a Q E hp hX hq => ?_) (hb := fun _ _ _ _ _ _ us hl => match us, hl with | [_, _, _, _], _ => rfl)
  obtain ⟨fl, cl, ws, sts, ⟨⟩⟩ := a
  have hp : PreF fl ws sts := hp
  replace hq : ∀ S1 r y, Grow S S1 → Rp.rep S1.G r y → y = searchCut fl cl ws sts → Q r S1.H := hq
  have nd := sc_search_cut.nd
  have hsm := hp.ok.small
  show SB _ _ _ [some ⟨fl⟩, some ⟨cl⟩, some ⟨ws⟩, some ⟨sts⟩, none, none, none] S
  refine s_asgV (ev_call cal_explore (u := (fl, cl, ws, sts, ())) (ar_cons (er_var 0) (ar_cons (er_var 1) (ar_cons (er_var 2) (ar_cons (er_var 3) ar_nil)))) hp.x) (bg_pair rfl (bg_name 4 nd) (bg_name 5 nd)) fun S1 st g1 hst => ?_
  obtain ⟨est, xo⟩ : st = explore fl cl ws sts ∧ XOk fl cl (aheadT ws) sts st := hst
  refine s_ret (en_lcI (h := fun z : Int => z) 6 (fun z : Int => memD (z, false) st.1 && !memD (z, true) st.1) rfl nd (it_range b_range (eFlo_size (er_var 0)) (by unfold Flo.size; omega)) (by rw [rangeI_len]; unfold Flo.size; omega) (blkOk_by (N := N_search_cut) (sc := defScope s_search_cut) (by decide +kernel)) (fun x _ S2 g2 X' hb => ?_) (fun x _ _ S2 g2 X' hb => ?_)).er fun S2 v g2 r => hq S2 v _ (g1.trans g2) r ?_
  · obtain ⟨_, _, _, _, _, rfl⟩ := hb
    exact tr_and (p2 := default) (tr_cmp (cv_inD2 (x := ((x, false) : Sp2)) (xs := st.1) (u65 inferInstance) (by decide) (er_pair (er_var 6) er_bl) (er_var 4))) fun _ => tr_cmp (cv_niD2 (x := ((x, true) : Sp2)) (xs := st.1) (u65 inferInstance) (by decide) (er_pair (er_var 6) er_bl) (er_var 4))
  · obtain ⟨_, _, _, _, _, rfl⟩ := hb
    exact er_var 6
  · unfold searchCut
    rw [← est, List.map_id']
    rfl
def PostWays (fl : Flo) (ws : List (List Int)) (y : Option (List (List Int))) : Prop := ∀ w, y = some w → WaysOk fl w ∧ w.length = ws.length + 1
theorem cal_add_way : Cal "add_way" 4 (Spc (fun a : Flo × List Int × List (List Int) × Int × Unit => a.1.Ok ∧ WaysOk a.1 a.2.2.1 ∧ 0 ≤ a.2.2.2.1 ∧ a.2.2.2.1 < a.1.size) fun a y => y = addWay a.1 a.2.1 a.2.2.1 a.2.2.2.1 ∧ PostWays a.1 a.2.2.1 y) := by
  refine mkCal (d := d_add_way) i_add_way sc_add_way g_add_way (fun f cdv A outer s S a Q E hp hX hq => ?_) (hb := fun _ _ _ _ _ _ us hl => match us, hl with | [_, _, _, _], _ => rfl)
  obtain ⟨fl, cl, ws, cell, ⟨⟩⟩ := a
  obtain ⟨ok, W, h0, h1⟩ : fl.Ok ∧ WaysOk fl ws ∧ 0 ≤ cell ∧ cell < fl.size := hp
  replace hq : ∀ S1 r y, Grow S S1 → Rp.rep S1.G r y → (y = addWay fl cl ws cell ∧ PostWays fl ws y) → Q r S1.H := hq
  have nd := sc_add_way.nd
  show SB _ _ _ [some ⟨fl⟩, some ⟨cl⟩, some ⟨ws⟩, some ⟨cell⟩, none] S
  refine s_setV 4 nd (ev_call cal_find_path (u := (fl, cl, ws, [cell], fl.doors, ())) (ar_cons (er_var 0) (ar_cons (er_var 1) (ar_cons (er_var 2) (ar_cons (er_lst1 (er_var 3)) (ar_cons (eFlo_doors (er_var 0)) ar_nil))))) ⟨ok, W, fun z hz => by rw [List.mem_singleton.mp hz]; exact ⟨h0, h1⟩⟩) fun S1 y g1 hy => ?_
  obtain ⟨ey, good⟩ : y = findPath fl cl ws [cell] fl.doors ∧ GoodPath fl cl ws [cell] y := hy
  refine s_if (tr_cmp (cv_isN (er_var 4))) (fun t S2 g2 => ?_) (fun t S2 g2 => s_end ?_)
  · have : y = none := Option.isNone_iff_eq_none.mp t
    subst this
    exact s_ret (x := (none : Option (List (List Int)))) er_non fun S3 v g3 r => hq S3 v _ ((g1.trans g2).trans g3) r ⟨by unfold addWay; rw [← ey]; rfl, fun w hw => nomatch hw⟩
  · obtain ⟨p, rfl⟩ : ∃ p, y = some p := by
      cases y with
      | none => cases t
      | some p => exact ⟨p, rfl⟩
    obtain ⟨P, hl⟩ := good p rfl
    exact s_ret (er_some (er_call cal_new_ways (u := (ws, p, ())) (ar_cons (er_var 2) (ar_cons (er_out (er_var 4)) ar_nil)) (preNw_of ok W P))) fun S3 v g3 r => hq S3 v _ ((g1.trans g2).trans g3) r ⟨by unfold addWay; rw [← ey]; rfl, fun w hw => by rw [← Option.some.inj hw]; exact ⟨newWays_ok W P hl, newWays_len ws p⟩⟩
theorem cal_most_ways : Cal "most_ways" 4 (Spc (fun a : Flo × List Int × List Int × List Int × Unit => a.1.Ok ∧ ∀ z ∈ a.2.2.1, 0 ≤ z ∧ z < a.1.size) fun _ (_ : List (List Int) × List Int) => True) := by
  refine mkCal (d := d_most_ways) i_most_ways sc_most_ways g_most_ways (fun f cdv A outer s S a Q E hp hX hq => ?_) (hb := fun _ _ _ _ _ _ us hl => match us, hl with | [_, _, _, _], _ => rfl)
  obtain ⟨fl, cl, src, gs, ⟨⟩⟩ := a
  obtain ⟨ok, hs⟩ : fl.Ok ∧ ∀ z ∈ src, 0 ≤ z ∧ z < fl.size := hp
  replace hq : ∀ S1 r (y : List (List Int) × List Int), Grow S S1 → Rp.rep S1.G r y → True → Q r S1.H := hq
  have nd := sc_most_ways.nd
  have W0 : WaysOk fl [] := ⟨List.nodup_nil, (fun w hw => by cases hw), (fun z hz => by cases hz)⟩
  show SB _ _ _ [some ⟨fl⟩, some ⟨cl⟩, some ⟨src⟩, some ⟨gs⟩, none, none] S
  refine s_set (x := ([] : List (List Int))) 4 nd er_lst0 fun S1 g1 => ?_
  refine s_setV 5 nd (ev_call cal_find_path (u := (fl, cl, [], src, gs, ())) (ar_cons (er_var 0) (ar_cons (er_var 1) (ar_cons (er_var 4) (ar_cons (er_var 2) (ar_cons (er_var 3) ar_nil))))) ⟨ok, W0, hs⟩) fun S2 y g2 hy => ?_
  refine s_while PassesOwn.never (fun m Γ' S' => ∃ (ws : List (List Int)) (o : Option (List Sp2)), Γ' = [some ⟨fl⟩, some ⟨cl⟩, some ⟨src⟩, some ⟨gs⟩, some ⟨ws⟩, some ⟨o⟩] ∧ m + ws.length = fl.near.length ∧ WaysOk fl ws ∧ GoodPath fl cl ws src o ∧ Grow S S') _
    ⟨[], y, rfl, Nat.add_zero _, W0, hy.2, g1.trans g2⟩ ?_
  rintro m Γ' S' ⟨ws, o, rfl, hm, W, good, gS⟩
  refine ⟨_, tr_cmp (cv_notN (er_var 5)), fun t S3 g3 => ?_, fun t S3 g3 => ?_⟩
  · obtain ⟨p, rfl⟩ := Option.isSome_iff_exists.mp t
    obtain ⟨P, hl⟩ := good p rfl
    have W2 := newWays_ok W P hl
    have hlen := newWays_len ws p
    have hfew := W2.few
    have hne := few_of_ne _ W2.ne
    refine s_set (x := newWays ws p) 4 nd (er_call cal_new_ways (u := (ws, p, ())) (ar_cons (er_var 4) (ar_cons (er_out (er_var 5)) ar_nil)) (preNw_of ok W P)) fun S4 g4 => ?_
    refine s_setV 5 nd (ev_call cal_find_path (u := (fl, cl, newWays ws p, src, gs, ())) (ar_cons (er_var 0) (ar_cons (er_var 1) (ar_cons (er_var 4) (ar_cons (er_var 2) (ar_cons (er_var 3) ar_nil))))) ⟨ok, W2, hs⟩) fun S5 y2 g5 hy2 => s_next (.keep (.keep (.keep (.keep (.keep (.keep .nil)))))) ?_
    exact ⟨m - 1, by omega, newWays ws p, y2, rfl, by omega, W2, hy2.2, ((gS.trans g3).trans g4).trans g5⟩
  · exact s_ret (er_pair (er_var 4) (er_call cal_search_cut (u := (fl, cl, ws, src, ())) (ar_cons (er_var 0) (ar_cons (er_var 1) (ar_cons (er_var 4) (ar_cons (er_var 2) ar_nil)))) ⟨ok, W, hs⟩)) fun S6 v g6 r => hq S6 v _ ((gS.trans g3).trans g6) r trivial
end
end Fl

set_option Elab.async false
set_option linter.all false
set_option maxRecDepth 100000
set_option maxHeartbeats 4000000
namespace Fl
open PySem PySem.Spec PyProof.Rows L2
/-! ### what is new since H0 -/
class RpN (β : Type) extends Rp β where
  repN : Hp → Hp → V → β → Prop
  mono2 : ∀ {H0 H H' : Hp} {v : V} {x : β}, Same H H' → repN H0 H v x → repN H0 H' v x
  less : ∀ {H0 H1 H : Hp} {v : V} {x : β}, Same H0 H1 → repN H1 H v x → repN H0 H v x
  old : ∀ {H0 H : Hp} {v : V} {x : β}, repN H0 H v x → Rp.rep H v x
structure New (H0 : Hp) (β : Type) where
  x : β
instance {H0 : Hp} {β : Type} [RpN β] : Rp (New H0 β) := ⟨fun H v y => RpN.repN H0 H v y.x, fun s h => RpN.mono2 s h⟩
section
variable [c : Ctx]
instance : RpN Flt where
  repN H0 H v x := Rp.rep H v (⟨x⟩ : NewF H0)
  mono2 s h := Rp.mono s h
  less s h := newF_less s h
  old h := newF_old h
instance {β : Type} [RpN β] : RpN (Option β) where
  repN H0 H v o := match o with
    | none => v = .non
    | some x => v ≠ .non ∧ RpN.repN H0 H v x
  mono2 := fun {H0 H H' v x} s h => by
    cases x with
    | none => exact h
    | some x => exact ⟨h.1, RpN.mono2 s h.2⟩
  less := fun {H0 H1 H v x} s h => by
    cases x with
    | none => exact h
    | some x => exact ⟨h.1, RpN.less s h.2⟩
  old := fun {H0 H v x} h => by
    cases x with
    | none => exact h
    | some x => exact ⟨h.1, RpN.old h.2⟩
instance {β : Type} [RpN β] : RpN (Str × β) where
  repN H0 H v x := ∃ a w, v = .ref a ∧ H a = some (.tup [.str x.1, w]) ∧ RpN.repN H0 H w x.2
  mono2 s h := let ⟨a, w, e, h1, h2⟩ := h; ⟨a, w, e, s _ _ h1, RpN.mono2 s h2⟩
  less s h := let ⟨a, w, e, h1, h2⟩ := h; ⟨a, w, e, h1, RpN.less s h2⟩
  old h := let ⟨a, w, e, h1, h2⟩ := h; ⟨a, _, w, e, h1, rfl, RpN.old h2⟩
/-- a promise: the answer is f a, made anew -/
def SpF {α β : Type} [Args α] [RpN β] (pre : α → Prop) (f : α → β) : Sp := fun vs H Q _ =>
  ∃ (S : HS) (a : α), S.H = H ∧ Args.reps S.G vs a ∧ pre a ∧ ∀ (S1 : HS) (r : V), Grow S S1 → Rp.rep S1.G r (⟨f a⟩ : New S.H β) → Q r S1.H
section
variable {β : Type} [RpN β] {X : Cx} {e a b : Expr} {es : List Expr} {Γ : Gm} {S S0 : HS} {pos : Pos} {x : β} {H0 : Hp}
theorem ER.less (h : ER X e Γ S (⟨x⟩ : New S.H β)) (g : Grow S0 S) : ER X e Γ S (⟨x⟩ : New S0.H β) := fun σ hσ S1 g1 Q k => h σ hσ S1 g1 Q fun S2 v g2 r => k S2 v g2 (RpN.less g.h r)
theorem ER.old (h : ER X e Γ S (⟨x⟩ : New H0 β)) : ER X e Γ S x := fun σ hσ S1 g1 Q k => h σ hσ S1 g1 Q fun S2 v g2 r => k S2 v g2 (RpN.old r)
theorem er_outN (h : ER X e Γ S (⟨some x⟩ : New H0 (Option β))) : ER X e Γ S (⟨x⟩ : New H0 β) := fun σ hσ S1 g1 Q k => h σ hσ S1 g1 Q fun S2 v g2 r => k S2 v g2 r.2
theorem er_someP {s : Str} (h : ER X e Γ S (⟨(s, x)⟩ : New H0 (Str × β))) : ER X e Γ S (⟨some (s, x)⟩ : New H0 (Option (Str × β))) := fun σ hσ S1 g1 Q k => h σ hσ S1 g1 Q fun S2 v g2 r => k S2 v g2 ⟨by
  obtain ⟨a, w, e, _, _⟩ := r
  rw [e]
  exact fun z => (by cases z), r⟩
theorem er_someF {x : Flt} (h : ER X e Γ S (⟨x⟩ : New H0 Flt)) : ER X e Γ S (⟨some x⟩ : New H0 (Option Flt)) := fun σ hσ S1 g1 Q k => h σ hσ S1 g1 Q fun S2 v g2 r => k S2 v g2 ⟨by
  obtain ⟨T, p, _, _, _, _, e, _⟩ := r
  rw [e]
  exact fun z => (by cases z), r⟩
theorem er_noneN {j pos} : ER X (.Constant .none j pos) Γ S (⟨none⟩ : New H0 (Option β)) := fun σ hσ S1 g Q k => w_pe pe_non (k S1 _ (.refl _) rfl)
theorem er_pairN {s : Str} {kk : Nat} (h1 : ER X a Γ S s) (h2 : ER X b Γ S (⟨x⟩ : New H0 β)) (hs : starEach [a, b] X.env = (false, eval a X.env) :: starEach [b] X.env := by rfl) (hs2 : starEach [b] X.env = [(false, eval b X.env)] := by rfl) : ER X (.Tuple [a, b] kk pos) Γ S (⟨(s, x)⟩ : New H0 (Str × β)) := fun σ hσ S1 g Q k =>
  w_pe (pe_tup (pa_cons pe_w (pa_cons pe_w pa_nil hs2) hs)) (h1 σ hσ S1 g _ fun S2 u g2 ru => h2 σ hσ S2 (g.trans g2) _ fun S3 v g3 rv => ⟨(by show 2 ≤ sizeLine; decide), fun p hp => by
    cases (show u = V.str s from ru)
    exact k (S3.new p _ hp) _ ((g2.trans g3).trans (.new S3 p _ hp)) ⟨p, v, rfl, HS.new_at, RpN.mono2 (Grow.new S3 p _ hp).g rv⟩⟩)
theorem er_sndN {s : Str} {n} {p2 : Pos} (ha : ER X a Γ S (⟨(s, x)⟩ : New H0 (Str × β))) : ER X (.Subscript a (.Constant (.int 1) n p2) pos) Γ S (⟨x⟩ : New H0 β) :=
  fun σ hσ S1 g Q k => w_pe (pe_ix ix_tup pe_w pe_int (fun _ _ => rfl)) (ha σ hσ S1 g _ fun S2 u g2 ⟨p, v2, e1, e2, r2⟩ => ⟨p, _, 1, v2, e1, rfl, SqT.of (S2.le _ _ e2), rfl, k S2 v2 g2 r2⟩)
theorem er_callN {δ : Type} [Args δ] {k j : Nat} {nm : Str} {p : Pos} {pre : δ → Prop} {f : δ → β} {u : δ} [hX : InC k X] (C : Cal nm j (SpF pre f)) (ha : AR X (e :: es) Γ S u) (hp : pre u) (hj : j ≤ k := by decide) (hg : Gl X nm := by rfl)
    (hdb : (nm == ("__debug__" : Str)) = false := by decide) (he : starEach (e :: es) X.env = (false, eval e X.env) :: starEach es X.env := by rfl) (hpl : (backTo pos (starEach es X.env)).any (·.1) = false := by rfl) :
    ER X (.Call (.Name nm p) (e :: es) [] pos) Γ S (⟨f u⟩ : New S.H β) := fun σ hσ S1 g Q kk => by
  obtain ⟨g0, fd, ps, F, hm, hk, hb⟩ := C.ex
  refine w_pe (pe_call (fn_in hX F) (hX.room.mono hj) hg (by rw [hX.mg]; exact hm) (by rw [hX.K]; exact hk) (by rw [hX.K]; exact hb) .nil pass0 pa_w hdb he hpl) (ha σ hσ S1 g _ fun S2 vs g2 r => ?_)
  exact ⟨S2, u, rfl, by rw [List.append_nil]; exact r, hp, fun S3 v g3 r3 => kk S3 v (g2.trans g3) (RpN.less (g.trans g2).h r3)⟩
theorem mkCalN {α : Type} [Args α] {pre : α → Prop} {f : α → β} {d : He.DefD} (i : Nat) {nm : Str} {N ps : List Str} {k : Nat} (sc : FnScope N ps d.scope) (hg : c.mg nm = some (.ref (He.ga c.K nm)))
    (body : ∀ (g : Addr) (cdv : Value) (A : Around) (outer : List Env) (s : Shared) (S : HS) (a : α) (Q : VK) (E : XK), pre a → InC k (bx d N g cdv A outer s S.H E) → (∀ (S1 : HS) (r : V) (y : β), Grow S S1 → Rp.rep S1.G r (⟨y⟩ : New S.H β) → y = f a → Q r S1.H) →
      SB (bx d N g cdv A outer s S.H E) d.body { nx := fun _ H' => Q .non H', rt := Q } (Args.gm a (N.length - Args.num α)) S)
    (hi : fn[i]? = some d := by rfl) (hat : d.at_ = (nm, none) := by rfl) (hdf : d.dfl = [] := by rfl) (hkw : d.kwd = [] := by rfl) (hnum : Args.num α = ps.length := by rfl)
    (hb : ∀ (kV doc pm : Value) (an : Option Addr) (cdv ct : Value) (us : List Value), us.length = ps.length → bindArgs (PySem.W.fnOf d.name d.qual d.params d.body d.scope .none kV doc pm an cdv ct) ⟨us, []⟩ = pure (ps.zip us)) : Cal nm (k + 1) (SpF pre f) := by
  obtain ⟨fd, F, G⟩ := fn_sp (sp := SpF pre f) (k := k) hi sc (fun vs H Q E ⟨S, a, _, hr, _⟩ => by rw [Args.len hr, hnum]) (fun g cdv A outer s H vs Q E hX h => by
    obtain ⟨S, a, rfl, ha, hp, hq⟩ := h
    have hl : vs.length = Args.num α := Args.len ha
    have hs : Slots S.G (L2.start N vs) (Args.gm a (N.length - Args.num α)) := by
      unfold L2.start
      rw [hl]
      exact Args.sl ha
    exact body g cdv A outer s S a Q E hp hX (fun S1 r y g1 r1 e => by subst e; exact hq S1 r g1 r1) _ hs)
  have e : He.fAd c.K d.at_ = He.ga c.K nm := by rw [hat]; rfl
  have e1 : d.dvs c.K = [] := by unfold He.DefD.dvs; rw [hdf]; rfl
  have e2 : d.kws c.K = [] := by unfold He.DefD.kws; rw [hkw]; rfl
  have kp := G.kp
  rw [e] at F kp
  rw [e1, e2] at G
  exact ⟨_, fd, ps, F, hg, kp, G.bindsN hb⟩
/-- now it is fixed, and new -/
theorem SB.fixN {F : Flt} {p : Addr} {D : Ends} {sts : List Stmt} (i : Nat) (gg : Grow S0 S) (hM : MF S0 S p F) (k : ∀ S' : HS, S'.H = S.H → Grow S0 S' → Same S.G S'.G → SB X sts D (Γ.set i (some ⟨(⟨F⟩ : New S0.H Flt)⟩)) S')
    (hΓ : Γ[i]? = some (some ⟨(⟨p⟩ : Adr)⟩) := by rfl) : SB X sts D Γ S := by
  refine SB.fixF i gg hM (fun S' e g s => ?_) hΓ
  intro σ hσ
  refine k S' e g s σ ⟨by rw [hσ.len, List.length_set, List.length_set], fun j t ht => ?_⟩
  by_cases hij : i = j
  · subst hij
    have hl : i < Γ.length := (List.getElem?_eq_some_iff.mp hΓ).1
    rw [List.getElem?_set_self hl] at ht
    cases ht
    obtain ⟨v, e1, r⟩ := hσ.at_ i ⟨(⟨F⟩ : NewF S0.H)⟩ (List.getElem?_set_self hl)
    exact ⟨v, e1, r⟩
  · rw [List.getElem?_set_ne hij] at ht
    exact hσ.at_ j t (by rw [List.getElem?_set_ne hij]; exact ht)
theorem SB.thawN {F : Flt} {D : Ends} {sts : List Stmt} (i : Nat) (gg : Grow S0 S) (k : ∀ (S' : HS) (p : Addr), S'.H = S.H → Grow S0 S' → MF S0 S' p F → SB X sts D ((List.replicate Γ.length none).set i (some ⟨(⟨p⟩ : Adr)⟩)) S')
    (hΓ : Γ[i]? = some (some ⟨(⟨F⟩ : New S0.H Flt)⟩) := by rfl) : SB X sts D Γ S := by
  intro σ hσ
  have hl : i < Γ.length := (List.getElem?_eq_some_iff.mp hΓ).1
  obtain ⟨v, e1, r⟩ := hσ.at_ i _ hΓ
  refine SB.thaw (Γ := (List.replicate Γ.length none).set i (some ⟨(⟨F⟩ : NewF S0.H)⟩)) i gg (fun S' p e g m => ?_) (List.getElem?_set_self (by rw [List.length_replicate]; exact hl)) σ ⟨by rw [hσ.len, List.length_set, List.length_replicate], fun j t ht => ?_⟩
  · rw [List.length_set, List.length_replicate]
    exact k S' p e g m
  · by_cases hij : i = j
    · subst hij
      rw [List.getElem?_set_self (by rw [List.length_replicate]; exact hl)] at ht
      cases ht
      exact ⟨v, e1, r⟩
    · rw [List.getElem?_set_ne hij, List.getElem?_replicate] at ht
      split at ht <;> cases ht
end
end
/-! ### explore keeps what is said of it -/
theorem fold_keep {α β : Type} {P : α → Prop} {f : α → β → α} : ∀ {xs : List β} {a : α}, P a → (∀ a, P a → ∀ x ∈ xs, P (f a x)) → P (xs.foldl f a)
  | [], _, h, _ => h
  | x :: r, a, h, k => fold_keep (xs := r) (k a h x List.mem_cons_self) fun b hb y hy => k b hb y (List.mem_cons_of_mem _ hy)
theorem exGo_ok [Ctx] {fl : Flo} {cl : List Int} {ws : List (List Int)} {starts : List Int} (ok : fl.Ok) (cells : ∀ z ∈ ws.flatten, 0 ≤ z ∧ z < fl.size) : ∀ (n p : Nat) (st : XSt), XOk fl cl (aheadT ws) starts st → XOk fl cl (aheadT ws) starts (exGo fl cl (aheadT ws) n p st)
  | 0, _, _, h => h
  | n + 1, p, st, h => by
    unfold exGo
    cases e : st.1[p]? with
    | none => exact h
    | some s =>
      have hr := h.rng s (List.mem_of_getElem? e)
      refine exGo_ok ok cells n (p + 1) _ (fold_keep (P := fun st => XOk fl cl (aheadT ws) starts st ∧ st.1[p]? = some s) ⟨h, e⟩ fun st ⟨h1, h2⟩ x hx => ?_).1
      unfold exTurn
      split
      · exact ⟨h1, h2⟩
      · next hn => exact ⟨h1.more h2 hx (next_in ok cells hr.1 hr.2 hx) hn, snoc_old h2⟩
theorem explore_ok [Ctx] {fl : Flo} {cl : List Int} {ws : List (List Int)} {starts : List Int} (h : PreX fl ws starts) : XOk fl cl (aheadT ws) starts (explore fl cl ws starts) := by
  refine exGo_ok h.ok h.cells _ _ _ (fold_keep (P := XOk fl cl (aheadT ws) starts) ⟨rfl, List.nodup_nil, fun s hs => (by cases hs), fun j k e => (by simp at e), fun j e => (by simp at e)⟩ fun st hst x hx => ?_)
  have hm := (sortI_perm starts).mem_iff.mp hx
  have hr := h.starts x hm
  unfold startTurn
  split
  · next ht => exact hst.start hr.1 hr.2 hm ht.2
  · exact hst
theorem findPath_ok [Ctx] {fl : Flo} {cl : List Int} {ws : List (List Int)} {starts goals : List Int} (h : PreF fl ws starts) : GoodPath fl cl ws starts (findPath fl cl ws starts goals) := by
  intro p hp
  unfold findPath at hp
  obtain ⟨q, hq, rfl⟩ := Option.map_eq_some_iff.mp hp
  have h1 := List.find?_some hq
  have h2 := List.mem_of_find?_eq_some hq
  obtain ⟨i, z⟩ := q
  obtain ⟨i0, i1, hz⟩ := mem_enumI h2
  obtain ⟨P, hl⟩ := pathTo_ok (explore_ok (cl := cl) h.x) i0 hz
  have hz2 : z.2 = true := (Bool.and_eq_true_iff.mp h1).1
  exact ⟨P, z.1, by rw [hl, ← hz2]⟩
theorem addWay_ok [Ctx] {fl : Flo} {cl : List Int} {ws : List (List Int)} {cell : Int} (ok : fl.Ok) (W : WaysOk fl ws) (h0 : 0 ≤ cell) (h1 : cell < fl.size) : PostWays fl ws (addWay fl cl ws cell) := by
  intro w hw
  unfold addWay at hw
  obtain ⟨p, hp, rfl⟩ := Option.map_eq_some_iff.mp hw
  obtain ⟨P, hl⟩ := findPath_ok ⟨ok, W, fun z hz => by rw [List.mem_singleton.mp hz]; exact ⟨h0, h1⟩⟩ p hp
  exact ⟨newWays_ok W P hl, newWays_len ws p⟩
end Fl

set_option Elab.async false
set_option linter.all false
set_option maxRecDepth 100000
set_option maxHeartbeats 4000000
namespace Fl
open PySem PySem.Spec PyProof.Rows L2
section
variable {α : Type} [Rp α] {X : Cx} {tg iter : Expr} {Γ : Gm} {S : HS} {pos : Pos} {D : Ends} {rest body : List Stmt}
/-- a loop that returns at the first x with p x -/
theorem s_search2 {xs : List α} {f : Gm → α → Gm} (p : α → Bool) (hp : PassesOwn (model X.prog X.w) X.A X.env X.xe) (hc : X.calm = true) (hi : IT X tg iter Γ S xs) (hg : BG X tg f)
    (hb : ∀ x ∈ xs, ∀ S2, Grow S S2 → ∀ D' : Ends, D'.rt = D.rt → (p x = false → ∀ S3, Grow S2 S3 → ∀ σ, Slots S3.G σ Γ → D'.nx σ S3.H) → (p x = true → xs.find? p = some x) → SB X body D' (f Γ x) S2)
    (hn : xs.find? p = none → ∀ S2, Grow S S2 → SB X rest D Γ S2) (hs : ∀ x, foldedSetIterable iter X.env x = pure x := by intro _; rfl) : SB X (.For tg iter body [] pos :: rest) D Γ S := by
  refine s_for hp hc hi hg (fun S1 g1 => ⟨fun r Γ' S' => Γ' = Γ ∧ Grow S1 S' ∧ ∃ pre, xs = pre ++ r ∧ ∀ y ∈ pre, p y = false, ⟨rfl, .refl _, [], rfl, fun y hy => by cases hy⟩, fun r Γ' S' ⟨_, g, _⟩ => g.g, ?_, ?_⟩) hs
  · rintro pre0 x r Γ' S' hx ⟨rfl, g', pre, hpre, hall⟩ S2 g2
    have hm : x ∈ xs := by rw [hx]; exact List.mem_append_right _ List.mem_cons_self
    refine hb x hm S2 ((g1.trans g').trans g2) _ rfl (fun hpx S3 g3 σ hσ => ⟨Γ', S3, rfl, hσ, rfl, (g'.trans g2).trans g3, pre ++ [x], by rw [hpre, List.append_assoc]; rfl, fun y hy => ?_⟩) fun hpx => find_pre hpre hpx hall
    rcases List.mem_append.mp hy with hy | hy
    · exact hall y hy
    · rw [List.mem_singleton.mp hy]
      exact hpx
  · rintro Γ' S' ⟨rfl, g', pre, hpre, hall⟩
    rw [List.append_nil] at hpre
    subst hpre
    exact hn (List.find?_eq_none.mpr fun y hy => by rw [hall y hy]; decide) S' (g1.trans g')
end
/-! ### acts.py, as functions of fleets -/
def distance (fl : Flo) (cl aims : List Int) (p : Int) : Option Int := (distances fl cl aims).getD p.toNat none
def takerAt (F : Flt) (q : Int × Odr) : Bool := !q.2.done && (match q.2.robot with | none => false | some r => (distance F.floor F.closed (F.aim q.1) (F.rob r).place).isSome)
def firstRobot (F : Flt) : Option Int := ((enumI F.orders).find? (takerAt F)).bind fun q => q.2.robot
def nearer (F : Flt) (cells : List Int) (r : Int) : List Int := match (distances F.floor F.closed cells).getD (F.rob r).place.toNat none with
  | none => []
  | some d => if d = 0 then [] else (F.floor.around (F.rob r).place).filter fun p => decide ((distances F.floor F.closed cells).getD p.toNat none = some (d - 1))
theorem getD_at {α : Type} {xs : List α} {i : Int} {d : α} (h0 : 0 ≤ i) (h1 : i < xs.length) : xs[i.toNat]? = some (xs.getD i.toNat d) := by
  rw [List.getD_eq_getElem?_getD, List.getElem?_eq_getElem (by omega)]
  rfl
theorem aim_in {F : Flt} (ok : F.Ok) {n : Int} (h0 : 0 ≤ n) (h1 : n < F.orders.length) : (∀ x ∈ F.aim n, 0 ≤ x ∧ x < F.floor.size) ∧ (F.aim n).length ≤ 1000 := by
  have oo := ok.odrI h0 h1
  unfold Flt.aim
  split
  · have hm := List.mem_of_getElem? (Flo.st_at oo.g0 oo.g1)
    exact ⟨ok.fl.st _ hm, by have := ok.fl.stL _ hm; omega⟩
  · have hm := List.mem_of_getElem? (Flo.st_at oo.s0 oo.s1)
    exact ⟨ok.fl.st _ hm, by have := ok.fl.stL _ hm; omega⟩
theorem dist_at {fl : Flo} (ok : fl.Ok) {cl aims : List Int} (ha : ∀ x ∈ aims, 0 ≤ x ∧ x < fl.size) {p : Int} (h0 : 0 ≤ p) (h1 : p ≤ fl.size) : (distances fl cl aims)[p.toNat]? = some ((distances fl cl aims).getD p.toNat none) := by
  refine getD_at h0 ?_
  rw [distances_len ok ha]
  unfold Flo.size at h1
  omega
section
variable [c : Ctx]
theorem cal_distance : Cal "distance" 3 (Spf (fun a : Flo × List Int × List Int × Int × Unit => preDist (a.1, a.2.1, a.2.2.1, ()) ∧ 0 ≤ a.2.2.2.1 ∧ a.2.2.2.1 ≤ a.1.size) fun a => distance a.1 a.2.1 a.2.2.1 a.2.2.2.1) := by
  refine mkCal (d := d_distance) i_distance sc_distance g_distance (fun f cdv A outer s S a Q E hp hX hq => ?_) (hb := fun _ _ _ _ _ _ us hl => match us, hl with | [_, _, _, _], _ => rfl)
  obtain ⟨fl, cl, aims, p, ⟨⟩⟩ := a
  obtain ⟨hp, h0, h1⟩ : preDist (fl, cl, aims, ()) ∧ 0 ≤ p ∧ p ≤ fl.size := hp
  replace hq : ∀ S1 r y, Grow S S1 → Rp.rep S1.G r y → y = distance fl cl aims p → Q r S1.H := hq
  show SB _ _ _ [some ⟨fl⟩, some ⟨cl⟩, some ⟨aims⟩, some ⟨p⟩] S
  exact s_ret (er_ix (er_call cal_distances (u := (fl, cl, aims, ())) (ar_cons (er_var 0) (ar_cons (er_var 1) (ar_cons (er_var 2) ar_nil))) hp) (er_var 3) h0 (dist_at hp.1 hp.2.1 h0 h1)) fun S1 v g1 r => hq S1 v _ g1 r rfl
theorem cal_first_robot : Cal "first_robot" 4 (Spf (fun a : Flt × Unit => a.1.Ok) fun a => firstRobot a.1) := by
  refine mkCal (d := d_first_robot) i_first_robot sc_first_robot g_first_robot (fun f cdv A outer s S a Q E hp hX hq => ?_) (hb := fun _ _ _ _ _ _ us hl => match us, hl with | [_], _ => rfl)
  obtain ⟨F, ⟨⟩⟩ := a
  have ok : F.Ok := hp
  replace hq : ∀ S1 r y, Grow S S1 → Rp.rep S1.G r y → y = firstRobot F → Q r S1.H := hq
  have nd := sc_first_robot.nd
  show SB _ _ _ [some ⟨F⟩, none, none, none] S
  refine s_search2 (takerAt F) PassesOwn.never rfl (it_enum b_enumerate (eFlt_orders (er_var 0))) (bg_pair rfl (bg_name 1 nd) (bg_name 2 nd)) (fun x hx S2 g2 D' hD hnx hf => ?_) (fun hf S2 g2 => ?_)
  · obtain ⟨n, o⟩ := x
    obtain ⟨n0, n1, ho⟩ := mem_enumI hx
    have oo := ok.odr o (List.mem_of_getElem? ho)
    have ha := aim_in ok n0 n1
    refine s_if (tr_and (p2 := default) (tr_not (tr_bool (eOdr_done (er_var 2)))) fun _ => tr_cmp (cv_notN (eOdr_robot (er_var 2)))) (fun t S3 g3 => ?_) (fun t S3 g3 => s_end (s_nil fun σ hσ => hnx ?_ S3 g3 σ (hσ.wk (.keep (.drop (.drop (.drop .nil)))))))
    · obtain ⟨t1, t2⟩ := Bool.and_eq_true_iff.mp t
      obtain ⟨r, hr⟩ := Option.isSome_iff_exists.mp t2
      obtain ⟨r0, r1⟩ := oo.rb r hr
      have ro := ok.robI r0 r1
      refine s_set (x := (F.rob r).place) 3 nd (eRob_place (er_ix (eFlt_robots (er_var 0)) (er_out (by rw [← hr]; exact eOdr_robot (er_var 2))) r0 (Flt.rob_at r0 r1))) fun S4 g4 => ?_
      have ht : takerAt F (n, o) = (distance F.floor F.closed (F.aim n) (F.rob r).place).isSome := by
        unfold takerAt
        dsimp only
        rw [hr, t1, Bool.true_and]
      refine s_if (tr_cmp (cv_notN (er_call cal_distance (u := (F.floor, F.closed, F.aim n, (F.rob r).place, ())) (ar_cons (eFlt_floor (er_var 0)) (ar_cons (ev_meth0 cal_closed (fun _ _ h => h) (lFlt_closed_no F) (er_var 0) ok.few).er (ar_cons (ev_meth cal_aim (fun _ _ h => h) (lFlt_aim_no F) (er_var 0) (ar_cons (er_var 1) ar_nil) ⟨ok, n0, n1⟩).er (ar_cons (er_var 3) ar_nil)))) ⟨⟨ok.fl, ha.1, ha.2⟩, ro.p0, ro.p1⟩))) (fun t S5 g5 => ?_) (fun t S5 g5 => s_end (s_end (s_nil fun σ hσ => hnx (by rw [ht]; exact t) S5 ((g3.trans g4).trans g5) σ (hσ.wk (.keep (.drop (.drop (.drop .nil))))))))
      have hfd := hf (by rw [ht]; exact t)
      refine s_ret (eOdr_robot (er_var 2)) fun S6 v g6 rv => ?_
      rw [show (_ : VK) = _ from hD]
      refine hq S6 v _ ((((g2.trans g3).trans g4).trans g5).trans g6) rv ?_
      unfold firstRobot
      rw [hfd]
      rfl
    · unfold takerAt
      dsimp only
      cases hd : o.done with
      | true => rfl
      | false =>
        rw [show (!(n, o).2.done) = true from by show (!o.done) = true; rw [hd]; rfl, Bool.true_and] at t
        cases hr : o.robot with
        | none => rfl
        | some r => rw [show ((n, o).2.robot) = some r from hr] at t; cases t
  · exact s_ret (x := (none : Option Int)) er_non fun S3 v g3 r => hq S3 v _ (g2.trans g3) r (by unfold firstRobot; rw [hf]; rfl)
theorem cal_nearer : Cal "nearer_places" 3 (Spf (fun a : Flt × List Int × Int × Unit => a.1.Ok ∧ (∀ x ∈ a.2.1, 0 ≤ x ∧ x < a.1.floor.size) ∧ a.2.1.length ≤ 1000 ∧ 0 ≤ a.2.2.1 ∧ a.2.2.1 < a.1.robots.length) fun a => nearer a.1 a.2.1 a.2.2.1) := by
  refine mkCal (d := d_nearer_places) i_nearer_places sc_nearer_places g_nearer_places (fun f cdv A outer s S a Q E hp hX hq => ?_) (hb := fun _ _ _ _ _ _ us hl => match us, hl with | [_, _, _], _ => rfl)
  obtain ⟨F, cells, r, ⟨⟩⟩ := a
  obtain ⟨ok, hc, hl, r0, r1⟩ : F.Ok ∧ (∀ x ∈ cells, 0 ≤ x ∧ x < F.floor.size) ∧ cells.length ≤ 1000 ∧ 0 ≤ r ∧ r < F.robots.length := hp
  replace hq : ∀ S1 v y, Grow S S1 → Rp.rep S1.G v y → y = nearer F cells r → Q v S1.H := hq
  have nd := sc_nearer_places.nd
  have ro := ok.robI r0 r1
  have ar := around_in ok.fl ro.p0 ro.p1
  have al := around_len ok.fl (F.rob r).place
  show SB _ _ _ [some ⟨F⟩, some ⟨cells⟩, some ⟨r⟩, none, none, none, none] S
  refine s_set (x := distances F.floor F.closed cells) 3 nd (er_call cal_distances (u := (F.floor, F.closed, cells, ())) (ar_cons (eFlt_floor (er_var 0)) (ar_cons (ev_meth0 cal_closed (fun _ _ h => h) (lFlt_closed_no F) (er_var 0) ok.few).er (ar_cons (er_var 1) ar_nil))) ⟨ok.fl, hc, hl⟩) fun S1 g1 => ?_
  refine s_set (x := (F.rob r).place) 4 nd (eRob_place (er_ix (eFlt_robots (er_var 0)) (er_var 2) r0 (Flt.rob_at r0 r1))) fun S2 g2 => ?_
  refine s_set (x := (distances F.floor F.closed cells).getD (F.rob r).place.toNat none) 5 nd (er_ix (er_var 3) (er_var 4) ro.p0 (dist_at ok.fl hc ro.p0 ro.p1)) fun S3 g3 => ?_
  have g13 := (g1.trans g2).trans g3
  refine s_if (tr_or (tr_cmp (cv_isN (er_var 5))) fun _ => tr_cmp (cv_eqO (er_var 5) er_int)) (fun t S4 g4 => ?_) (fun t S4 g4 => s_end ?_)
  · refine s_ret (x := ([] : List Int)) er_lst0 fun S5 v g5 rv => hq S5 v _ ((g13.trans g4).trans g5) rv ?_
    unfold nearer
    cases e : (distances F.floor F.closed cells).getD (F.rob r).place.toNat none with
    | none => rfl
    | some d =>
      rw [e] at t
      have hd : d = 0 := by simpa using t
      rw [hd]
      rfl
  · obtain ⟨d, e⟩ : ∃ d, (distances F.floor F.closed cells).getD (F.rob r).place.toNat none = some d := by
      cases e : (distances F.floor F.closed cells).getD (F.rob r).place.toNat none with
      | none => rw [e] at t; cases t
      | some d => exact ⟨d, rfl⟩
    have hd : ¬ d = 0 := by
      rw [e] at t
      simpa using t
    refine s_ret (en_lcI (h := fun p : Int => p) 6 (fun p : Int => decide ((distances F.floor F.closed cells).getD p.toNat none = some (d - 1))) rfl nd (it_list (ev_meth cal_around (fun _ _ h => h) (lFlo_around_no F.floor) (eFlt_floor (er_var 0)) (ar_cons (er_var 4) ar_nil) ⟨ok.fl, ro.p0, ro.p1⟩).er) (by show (F.floor.around (F.rob r).place).length ≤ _; omega) (blkOk_by (N := N_nearer_places) (sc := defScope s_nearer_places) (by decide +kernel)) (fun x hx S5 g5 X' hb => ?_) (fun x _ _ S5 g5 X' hb => ?_)).er fun S5 v g5 rv => hq S5 v _ ((g13.trans g4).trans g5) rv ?_
    · obtain ⟨_, _, _, _, _, rfl⟩ := hb
      have hxr := ar x hx
      exact tr_cmp (cv_eqO (er_ix (er_var 3) (er_var 6) hxr.1 (dist_at ok.fl hc hxr.1 hxr.2)) (er_sub (er_out (by rw [← e]; exact er_var 5)) er_int))
    · obtain ⟨_, _, _, _, _, rfl⟩ := hb
      exact er_var 6
    · unfold nearer
      rw [e, List.map_id']
      exact (if_neg hd).symm
end
end Fl

set_option Elab.async false
set_option linter.all false
set_option maxRecDepth 100000
set_option maxHeartbeats 4000000
namespace Fl
open PySem PySem.Spec PyProof.Rows L2
theorem enum_len {α : Type} (xs : List α) : (enumI xs).length = xs.length := by
  unfold enumI
  rw [List.length_zip, rangeI_len, Nat.min_self]
theorem enum_get {α : Type} {xs : List α} {i : Nat} {x : α} (h : xs[i]? = some x) : (enumI xs)[i]? = some ((i : Int), x) := by
  have hi := (List.getElem?_eq_some_iff.mp h).1
  unfold enumI
  rw [List.getElem?_zip_eq_some]
  exact ⟨by rw [rangeI_get hi, Int.zero_add], h⟩
theorem enum_mem {α : Type} {xs : List α} {i : Int} {x : α} (h : (i, x) ∈ enumI xs) : 0 ≤ i ∧ i < xs.length ∧ xs[i.toNat]? = some x := by
  obtain ⟨k, hk⟩ := List.getElem?_of_mem h
  have hl : k < xs.length := by
    have := (List.getElem?_eq_some_iff.mp hk).1
    rw [enum_len] at this
    exact this
  rw [enum_get (List.getElem?_eq_getElem hl)] at hk
  cases hk
  exact ⟨by omega, by omega, by rw [Int.toNat_natCast]; exact List.getElem?_eq_getElem hl⟩
abbrev rob0 : Rob := ⟨0, false, []⟩
def othersOf (F : Flt) (r : Int) : List Int := F.running.filter fun n => !decide (n = r)
def stepSet (rs : List Rob) (q : Int × List Int) : List Rob := rs.set q.1.toNat ⟨(rs.getD q.1.toNat rob0).place, false, q.2⟩
def putRob (F : Flt) (r : Int) (x : Rob) : Flt := { F with robots := F.robots.set r.toNat x }
def stepWith (F : Flt) (r p : Int) (ws : List (List Int)) : Flt := putRob { F with robots := ((othersOf F r).zip ws).foldl stepSet F.robots } r ⟨p, false, ws.getLast?.getD []⟩
def stepF (F : Flt) (r p : Int) : Option Flt :=
  if (F.rob r).broken = true ∨ p ∉ F.floor.around (F.rob r).place then none
  else if p = F.floor.depot then some (putRob F r ⟨p, false, []⟩)
  else if p ∈ F.taken then none
  else (addWay F.floor F.closed (F.keptWays (othersOf F r)) p).map (stepWith F r p)
def homeRob (F : Flt) (r : Int) : Rob := if 1 < (F.rob r).way.length then ⟨(F.rob r).way.getD 1 0, false, (F.rob r).way.drop 1⟩ else ⟨F.floor.depot, false, []⟩
def stepHome (F : Flt) (r : Int) : Flt := putRob F r (homeRob F r)
def putOdr (F : Flt) (n : Int) (x : Odr) : Flt := { F with orders := F.orders.set n.toNat x }
def handleF (F : Flt) (n : Int) : Str × Flt := if (F.odr n).loaded then ("unload", putOdr F n { F.odr n with robot := none, loaded := false, done := true }) else ("load", putOdr F n { F.odr n with loaded := true })
/-! ### who runs -/
theorem run_mem {F : Flt} {n : Int} (h : n ∈ F.running) : 0 ≤ n ∧ n < F.robots.length ∧ (F.rob n).broken = false ∧ (F.rob n).place ≠ F.floor.depot := by
  unfold Flt.running at h
  obtain ⟨q, hq, rfl⟩ := List.mem_map.mp h
  obtain ⟨h1, h2⟩ := List.mem_filter.mp hq
  obtain ⟨i, x⟩ := q
  obtain ⟨a, b, e⟩ := (enum_mem h1 : 0 ≤ i ∧ i < F.robots.length ∧ F.robots[i.toNat]? = some x)
  have ex : F.rob i = x := by
    have := Flt.rob_at (F := F) a b
    rw [e] at this
    exact (Option.some.inj this).symm
  obtain ⟨t1, t2⟩ := Bool.and_eq_true_iff.mp h2
  refine ⟨a, b, ?_, ?_⟩
  · rw [ex]
    simpa using t2
  · rw [ex]
    unfold Flt.off at t1
    simpa using t1
theorem rangeI_nodup (n : Nat) : (rangeI 0 n).Nodup := by
  unfold rangeI
  rw [List.nodup_iff_pairwise_ne, List.pairwise_map]
  exact List.pairwise_lt_range.imp fun {a b} h => by omega
theorem run_nodup (F : Flt) : F.running.Nodup := by
  unfold Flt.running
  have h1 : ((enumI F.robots).map (·.1)) = rangeI 0 F.robots.length := by
    unfold enumI
    exact List.map_fst_zip (by rw [rangeI_len]; exact Nat.le_refl _)
  have h2 : (((enumI F.robots).filter fun q => F.off q.2 && !q.2.broken).map (·.1)).Sublist (rangeI 0 F.robots.length) := by
    rw [← h1]
    exact (List.filter_sublist).map _
  exact (rangeI_nodup F.robots.length).sublist h2
theorem others_mem {F : Flt} {r n : Int} (h : n ∈ othersOf F r) : (0 ≤ n ∧ n < F.robots.length ∧ (F.rob n).broken = false ∧ (F.rob n).place ≠ F.floor.depot) ∧ n ≠ r := by
  obtain ⟨h1, h2⟩ := List.mem_filter.mp h
  exact ⟨run_mem h1, by simpa using h2⟩
theorem others_nodup (F : Flt) (r : Int) : (othersOf F r).Nodup := (run_nodup F).sublist List.filter_sublist
theorem others_len (F : Flt) (r : Int) : (othersOf F r).length ≤ F.robots.length := by
  have h1 := List.length_filter_le (fun n => !decide (n = r)) F.running
  have h2 : F.running.length ≤ F.robots.length := by
    unfold Flt.running
    rw [List.length_map]
    have := List.length_filter_le (fun q : Int × Rob => F.off q.2 && !q.2.broken) (enumI F.robots)
    rw [enum_len] at this
    exact this
  unfold othersOf
  omega
/-- ways of two robots never meet -/
theorem apart {rs : List Rob} (nd : (rs.map (·.way)).flatten.Nodup) {i j : Nat} {a b : Rob} (hi : rs[i]? = some a) (hj : rs[j]? = some b) (ne : i ≠ j) : ∀ x ∈ a.way, ∀ y ∈ b.way, x ≠ y := by
  have h := (List.pairwise_flatten.mp nd).2
  have h1 : (rs.map (·.way))[i]? = some a.way := by rw [List.getElem?_map, hi]; rfl
  have h2 : (rs.map (·.way))[j]? = some b.way := by rw [List.getElem?_map, hj]; rfl
  obtain ⟨l1, e1⟩ := List.getElem?_eq_some_iff.mp h1
  obtain ⟨l2, e2⟩ := List.getElem?_eq_some_iff.mp h2
  have q := List.pairwise_iff_getElem.mp h
  rcases Nat.lt_or_gt_of_ne ne with z | z
  · have := q i j l1 l2 z
    rw [e1, e2] at this
    exact this
  · have := q j i l2 l1 z
    rw [e1, e2] at this
    exact fun x hx y hy e => this y hy x hx e.symm
theorem way_nodup {rs : List Rob} (nd : (rs.map (·.way)).flatten.Nodup) {a : Rob} (ha : a ∈ rs) : a.way.Nodup := (List.pairwise_flatten.mp nd).1 _ (List.mem_map.mpr ⟨a, ha, rfl⟩)
/-- how to see it -/
theorem nodup_robs {rs : List Rob} (h1 : ∀ a ∈ rs, a.way.Nodup) (h2 : ∀ (i j : Nat) (a b : Rob), i < j → rs[i]? = some a → rs[j]? = some b → ∀ x ∈ a.way, ∀ y ∈ b.way, x ≠ y) : (rs.map (·.way)).flatten.Nodup := by
  refine List.pairwise_flatten.mpr ⟨fun w hw => ?_, ?_⟩
  · obtain ⟨a, ha, rfl⟩ := List.mem_map.mp hw
    exact h1 a ha
  · rw [List.pairwise_map]
    exact List.pairwise_iff_getElem.mpr fun i j hi hj hij => h2 i j _ _ hij (List.getElem?_eq_getElem hi) (List.getElem?_eq_getElem hj)
theorem kept_ok {F : Flt} (ok : F.Ok) {ns : List Int} (nd : ns.Nodup) (h : ∀ n ∈ ns, 0 ≤ n ∧ n < F.robots.length ∧ (F.rob n).broken = false ∧ (F.rob n).place ≠ F.floor.depot) : WaysOk F.floor (F.keptWays ns) := by
  unfold Flt.keptWays
  refine ⟨List.pairwise_flatten.mpr ⟨fun w hw => ?_, ?_⟩, fun w hw => ?_, fun x hx => ?_⟩
  · obtain ⟨n, hn, rfl⟩ := List.mem_map.mp hw
    obtain ⟨a, b, _⟩ := h n hn
    exact way_nodup ok.nd (List.mem_of_getElem? (Flt.rob_at a b))
  · rw [List.pairwise_map]
    refine List.Pairwise.imp_of_mem (fun {n m} hn hm ne => ?_) nd
    obtain ⟨a, b, _⟩ := h n hn
    obtain ⟨a', b', _⟩ := h m hm
    exact apart ok.nd (Flt.rob_at a b) (Flt.rob_at a' b') (by omega)
  · obtain ⟨n, hn, rfl⟩ := List.mem_map.mp hw
    obtain ⟨a, b, h1, h2⟩ := h n hn
    exact (ok.robI a b).runs h1 h2
  · obtain ⟨w, hw, hx⟩ := List.mem_flatten.mp hx
    obtain ⟨n, hn, rfl⟩ := List.mem_map.mp hw
    obtain ⟨a, b, _⟩ := h n hn
    exact (ok.robI a b).cells x hx
/-! ### fleets stay well -/
theorem put_ok {F : Flt} (ok : F.Ok) {r : Int} {x : Rob} (r0 : 0 ≤ r) (r1 : r < F.robots.length) (hx : RobOk F.floor x) (hn : x.way.Nodup) (hs : ∀ z ∈ x.way, z ∈ (F.rob r).way) : (putRob F r x).Ok where
  fl := ok.fl
  n4 := by show (F.robots.set r.toNat x).length ≤ 4; rw [List.length_set]; exact ok.n4
  rob := fun a ha => by
    rcases List.mem_or_eq_of_mem_set ha with h | h
    · exact ok.rob a h
    · rw [h]
      exact hx
  nd := by
    refine nodup_robs (fun a ha => ?_) fun i j a b hij hi hj => ?_
    · rcases List.mem_or_eq_of_mem_set ha with h | h
      · exact way_nodup ok.nd h
      · rw [h]
        exact hn
    · have hr := Flt.rob_at r0 r1
      have key : ∀ (k : Nat) (c : Rob), (F.robots.set r.toNat x)[k]? = some c → ∃ d, F.robots[k]? = some d ∧ ∀ z ∈ c.way, z ∈ d.way := fun k c hk => by
        by_cases e : r.toNat = k
        · subst e
          rw [List.getElem?_set_self (by omega)] at hk
          cases hk
          exact ⟨_, hr, hs⟩
        · rw [List.getElem?_set_ne e] at hk
          exact ⟨c, hk, fun z hz => hz⟩
      obtain ⟨a', ha, sa⟩ := key i a hi
      obtain ⟨b', hb, sb⟩ := key j b hj
      exact fun u hu v hv => apart ok.nd ha hb (by omega) u (sa u hu) v (sb v hv)
  n1k := ok.n1k
  odr := fun o ho => by
    have := ok.odr o ho
    exact ⟨this.s0, this.s1, this.g0, this.g1, fun r hr => by show 0 ≤ r ∧ r < ((F.robots.set _ x).length : Nat); rw [List.length_set]; exact this.rb r hr⟩
  pt0 := ok.pt0
  pt1 := ok.pt1
theorem stepSet_len (rs : List Rob) (q : Int × List Int) : (stepSet rs q).length = rs.length := List.length_set ..
theorem foldSet_len : ∀ (qs : List (Int × List Int)) (rs : List Rob), (qs.foldl stepSet rs).length = rs.length
  | [], _ => rfl
  | q :: qs, rs => by rw [List.foldl_cons, foldSet_len qs, stepSet_len]
/-- what the loop makes of the robots -/
theorem foldSet_at : ∀ (qs : List (Int × List Int)) (rs : List Rob), (qs.map (·.1)).Nodup → (∀ q ∈ qs, 0 ≤ q.1 ∧ q.1 < rs.length) → ∀ (i : Nat) (a : Rob), (qs.foldl stepSet rs)[i]? = some a →
    (∃ (k : Nat) (q : Int × List Int) (b : Rob), qs[k]? = some q ∧ q.1 = i ∧ rs[i]? = some b ∧ a = ⟨b.place, false, q.2⟩) ∨ (rs[i]? = some a ∧ ∀ q ∈ qs, q.1 ≠ i)
  | [], rs, _, _, i, a, h => .inr ⟨h, fun q hq => by cases hq⟩
  | q :: qs, rs, nd, hb, i, a, h => by
    obtain ⟨n1, n2⟩ := List.nodup_cons.mp nd
    have h0 := hb q List.mem_cons_self
    rcases foldSet_at qs (stepSet rs q) n2 (fun p hp => by rw [stepSet_len]; exact hb p (List.mem_cons_of_mem _ hp)) i a h with ⟨k, p, b, e1, e2, e3, e4⟩ | ⟨e1, e2⟩
    · refine .inl ⟨k + 1, p, b, e1, e2, ?_, e4⟩
      unfold stepSet at e3
      rw [List.getElem?_set_ne] at e3
      · exact e3
      · intro z
        refine n1 (List.mem_map.mpr ⟨p, List.mem_of_getElem? e1, ?_⟩)
        show p.1 = q.1
        omega
    · by_cases e : q.1.toNat = i
      · subst e
        unfold stepSet at e1
        rw [List.getElem?_set_self (by omega)] at e1
        refine .inl ⟨0, q, rs.getD q.1.toNat rob0, rfl, by omega, getD_at h0.1 h0.2, (Option.some.inj e1).symm⟩
      · unfold stepSet at e1
        rw [List.getElem?_set_ne e] at e1
        exact .inr ⟨e1, fun p hp => by
          rcases List.mem_cons.mp hp with z | hp
          · rw [z]
            omega
          · exact e2 p hp⟩
structure Same0 (F G : Flt) : Prop where
  fl : G.floor = F.floor
  pt : G.patience = F.patience
  nr : G.robots.length = F.robots.length
theorem stepWith_ok {F : Flt} (ok : F.Ok) {r p : Int} {ws : List (List Int)} (r0 : 0 ≤ r) (r1 : r < F.robots.length) (p0 : 0 ≤ p) (p1 : p < F.floor.size) (W : WaysOk F.floor ws) (hl : ws.length = (othersOf F r).length + 1) : (stepWith F r p ws).Ok ∧ Same0 F (stepWith F r p ws) ∧ (stepWith F r p ws).orders = F.orders := by
  have hlen := foldSet_len ((othersOf F r).zip ws) F.robots
  have zl : ((othersOf F r).zip ws).map (·.1) = othersOf F r := List.map_fst_zip (by omega)
  have hbd : ∀ q ∈ (othersOf F r).zip ws, 0 ≤ q.1 ∧ q.1 < F.robots.length := fun q hq => by
    have := (others_mem (List.of_mem_zip (a := q.1) (b := q.2) hq).1).1
    exact ⟨this.1, this.2.1⟩
  -- each robot behind the step: what it is, and which way it has
  have key : ∀ (i : Nat) (a : Rob), (stepWith F r p ws).robots[i]? = some a → RobOk F.floor a ∧ (a.way = [] ∨ ∃ k : Nat, ws[k]? = some a.way ∧ ((k < (othersOf F r).length ∧ (othersOf F r)[k]? = some (i : Int)) ∨ (k = (othersOf F r).length ∧ (i : Int) = r))) := fun i a h => by
    have h : ((((othersOf F r).zip ws).foldl stepSet F.robots).set r.toNat ⟨p, false, ws.getLast?.getD []⟩)[i]? = some a := h
    by_cases e : r.toNat = i
    · subst e
      rw [List.getElem?_set_self (by rw [hlen]; omega)] at h
      have h := (Option.some.inj h).symm
      have hw : ws[(othersOf F r).length]? = some (ws.getLast?.getD []) := by
        rw [List.getLast?_eq_getElem?, show ws.length - 1 = (othersOf F r).length by omega, List.getElem?_eq_getElem (by omega)]
        rfl
      rw [h]
      have hm := List.mem_of_getElem? hw
      refine ⟨⟨p0, by show p ≤ _; omega, fun x hx => W.cells x (List.mem_flatten.mpr ⟨_, hm, hx⟩), fun z => ?_, fun _ _ => W.ne _ hm⟩, .inr ⟨_, hw, .inr ⟨rfl, by omega⟩⟩⟩
      rcases z with z | z
      · cases z
      · exfalso
        have : p = F.floor.size := z
        omega
    · rw [List.getElem?_set_ne e] at h
      rcases foldSet_at _ _ (by rw [zl]; exact others_nodup F r) hbd i a h with ⟨k, q, b, e1, e2, e3, rfl⟩ | ⟨e1, e2⟩
      · rw [show q = (q.1, q.2) from rfl, List.getElem?_zip_eq_some] at e1
        obtain ⟨f1, f2⟩ := e1
        have hm := List.mem_of_getElem? f2
        have om := (others_mem (List.mem_of_getElem? f1)).1
        have hb : F.rob q.1 = b := by
          have := Flt.rob_at (F := F) om.1 om.2.1
          rw [e2, Int.toNat_natCast, e3] at this
          rw [e2]
          exact (Option.some.inj this).symm
        have bo := ok.rob b (List.mem_of_getElem? e3)
        rw [hb] at om
        refine ⟨⟨bo.p0, bo.p1, fun x hx => W.cells x (List.mem_flatten.mpr ⟨_, hm, hx⟩), fun z => ?_, fun _ _ => W.ne _ hm⟩, .inr ⟨k, f2, .inl ⟨(List.getElem?_eq_some_iff.mp f1).1, by rw [f1, e2]⟩⟩⟩
        rcases z with z | z
        · cases z
        · exact absurd z om.2.2.2
      · have ao := ok.rob a (List.mem_of_getElem? e1)
        refine ⟨ao, .inl ?_⟩
        have hi : i < F.robots.length := (List.getElem?_eq_some_iff.mp e1).1
        have er : F.rob (i : Int) = a := by
          have := Flt.rob_at (F := F) (i := (i : Int)) (by omega) (by omega)
          rw [Int.toNat_natCast, e1] at this
          exact (Option.some.inj this).symm
        cases hbk : a.broken with
        | true => exact ao.still (.inl hbk)
        | false =>
          by_cases hd : a.place = F.floor.depot
          · exact ao.still (.inr hd)
          · exfalso
            have hrun : (i : Int) ∈ F.running := by
              unfold Flt.running
              refine List.mem_map.mpr ⟨((i : Int), a), List.mem_filter.mpr ⟨List.mem_of_getElem? (enum_get e1), ?_⟩, rfl⟩
              show (F.off a && !a.broken) = true
              unfold Flt.off
              rw [hbk, decide_eq_false hd]
              rfl
            have hot : (i : Int) ∈ othersOf F r := List.mem_filter.mpr ⟨hrun, by simp; omega⟩
            obtain ⟨k, hk⟩ := List.getElem?_of_mem hot
            have hkl := (List.getElem?_eq_some_iff.mp hk).1
            have hz : ((othersOf F r).zip ws)[k]? = some ((i : Int), ws[k]) := List.getElem?_zip_eq_some.mpr ⟨hk, List.getElem?_eq_getElem (by omega)⟩
            exact e2 _ (List.mem_of_getElem? hz) rfl
  have hN : (stepWith F r p ws).robots.length = F.robots.length := by
    show (List.set _ _ _).length = _
    rw [List.length_set, hlen]
  have apartW : ∀ (k l : Nat) (w v : List Int), k ≠ l → ws[k]? = some w → ws[l]? = some v → ∀ x ∈ w, ∀ y ∈ v, x ≠ y := fun k l w v ne hk hl => by
    have q := List.pairwise_iff_getElem.mp (List.pairwise_flatten.mp W.nd).2
    obtain ⟨l1, e1⟩ := List.getElem?_eq_some_iff.mp hk
    obtain ⟨l2, e2⟩ := List.getElem?_eq_some_iff.mp hl
    rcases Nat.lt_or_gt_of_ne ne with z | z
    · have := q k l l1 l2 z
      rw [e1, e2] at this
      exact this
    · have := q l k l2 l1 z
      rw [e1, e2] at this
      exact fun x hx y hy e => this y hy x hx e.symm
  refine ⟨⟨ok.fl, by rw [hN]; exact ok.n4, fun a ha => ?_, nodup_robs (fun a ha => ?_) (fun i j a b hij hi hj => ?_), ok.n1k, fun o ho => ?_, ok.pt0, ok.pt1⟩, ⟨rfl, rfl, hN⟩, rfl⟩
  · obtain ⟨i, hi⟩ := List.getElem?_of_mem ha
    exact (key i a hi).1
  · obtain ⟨i, hi⟩ := List.getElem?_of_mem ha
    rcases (key i a hi).2 with e | ⟨k, hk, _⟩
    · rw [e]
      exact List.nodup_nil
    · exact (List.pairwise_flatten.mp W.nd).1 _ (List.mem_of_getElem? hk)
  · intro x hx y hy
    rcases (key i a hi).2 with e | ⟨k, hk, hk2⟩
    · rw [e] at hx
      cases hx
    rcases (key j b hj).2 with e | ⟨l, hl, hl2⟩
    · rw [e] at hy
      cases hy
    refine apartW k l _ _ (fun z => ?_) hk hl x hx y hy
    subst z
    rcases hk2 with ⟨c1, c2⟩ | ⟨c1, c2⟩ <;> rcases hl2 with ⟨d1, d2⟩ | ⟨d1, d2⟩
    · rw [c2] at d2
      have := Option.some.inj d2
      omega
    · omega
    · omega
    · omega
  · have := ok.odr o ho
    exact ⟨this.s0, this.s1, this.g0, this.g1, by rw [hN]; exact this.rb⟩
theorem stepF_ok [Ctx] {F G : Flt} (ok : F.Ok) {r p : Int} (r0 : 0 ≤ r) (r1 : r < F.robots.length) (h : stepF F r p = some G) : G.Ok ∧ Same0 F G ∧ G.orders = F.orders := by
  have ro := ok.robI r0 r1
  unfold stepF at h
  split at h
  · cases h
  next hn =>
  have har : p ∈ F.floor.around (F.rob r).place := Classical.not_not.mp fun z => hn (.inr z)
  have pr := around_in ok.fl ro.p0 ro.p1 p har
  split at h
  · next e =>
    cases h
    refine ⟨put_ok ok r0 r1 ⟨pr.1, pr.2, (fun x hx => by cases hx), fun _ => rfl, fun _ z => absurd e z⟩ List.nodup_nil (fun z hz => by cases hz), ⟨rfl, rfl, by show (List.set _ _ _).length = _; rw [List.length_set]⟩, rfl⟩
  · next e =>
    split at h
    · cases h
    · obtain ⟨ws, hw, rfl⟩ := Option.map_eq_some_iff.mp h
      have hp : p < F.floor.size := by
        have : ¬ p = F.floor.size := e
        omega
      have K := kept_ok ok (others_nodup F r) fun n hn => (others_mem hn).1
      obtain ⟨W, hl⟩ := addWay_ok ok.fl K pr.1 hp ws hw
      exact stepWith_ok ok r0 r1 pr.1 hp W (by rw [hl]; unfold Flt.keptWays; rw [List.length_map])
theorem homeRob_ok {F : Flt} (ok : F.Ok) {r : Int} (r0 : 0 ≤ r) (r1 : r < F.robots.length) : RobOk F.floor (homeRob F r) ∧ (homeRob F r).way.Nodup ∧ ∀ z ∈ (homeRob F r).way, z ∈ (F.rob r).way := by
  have ro := ok.robI r0 r1
  have hnd := way_nodup ok.nd (List.mem_of_getElem? (Flt.rob_at r0 r1))
  unfold homeRob
  split
  · next h =>
    have hm : (F.rob r).way.getD 1 0 ∈ (F.rob r).way := by
      rw [List.getD_eq_getElem?_getD, List.getElem?_eq_getElem h]
      exact List.getElem_mem h
    have hc := ro.cells _ hm
    refine ⟨⟨hc.1, by show (F.rob r).way.getD 1 0 ≤ _; omega, fun x hx => ro.cells x (List.mem_of_mem_drop hx), fun z => ?_, fun _ _ z => ?_⟩, hnd.sublist (List.drop_sublist _ _), fun z hz => List.mem_of_mem_drop hz⟩
    · rcases z with z | z
      · cases z
      · exfalso
        have : (F.rob r).way.getD 1 0 = F.floor.size := z
        omega
    · have := congrArg List.length z
      rw [List.length_drop] at this
      show False
      have : (F.rob r).way.length - 1 = 0 := this
      omega
  · refine ⟨⟨?_, Int.le_refl _, fun x hx => (by cases hx), fun _ => rfl, fun _ z => absurd rfl z⟩, List.nodup_nil, fun z hz => (by cases hz)⟩
    show 0 ≤ (F.floor.near.length : Int)
    omega
theorem stepHome_ok {F : Flt} (ok : F.Ok) {r : Int} (r0 : 0 ≤ r) (r1 : r < F.robots.length) : (stepHome F r).Ok ∧ Same0 F (stepHome F r) ∧ (stepHome F r).orders = F.orders := by
  obtain ⟨a, b, c⟩ := homeRob_ok ok r0 r1
  exact ⟨put_ok ok r0 r1 a b c, ⟨rfl, rfl, by show (List.set _ _ _).length = _; rw [List.length_set]⟩, rfl⟩
theorem putOdr_ok {F : Flt} (ok : F.Ok) {n : Int} {x : Odr} (hx : OdrOk F.floor F.robots.length x) : (putOdr F n x).Ok where
  fl := ok.fl
  n4 := ok.n4
  rob := ok.rob
  nd := ok.nd
  n1k := by show (F.orders.set n.toNat x).length ≤ 1000; rw [List.length_set]; exact ok.n1k
  odr := fun o ho => by
    rcases List.mem_or_eq_of_mem_set ho with h | h
    · exact ok.odr o h
    · rw [h]
      exact hx
  pt0 := ok.pt0
  pt1 := ok.pt1
theorem handleF_ok {F : Flt} (ok : F.Ok) {n : Int} (n0 : 0 ≤ n) (n1 : n < F.orders.length) : (handleF F n).2.Ok ∧ Same0 F (handleF F n).2 ∧ (handleF F n).2.orders.length = F.orders.length := by
  have oo := ok.odrI n0 n1
  unfold handleF
  split
  · exact ⟨putOdr_ok ok ⟨oo.s0, oo.s1, oo.g0, oo.g1, fun r hr => by cases hr⟩, ⟨rfl, rfl, rfl⟩, List.length_set ..⟩
  · exact ⟨putOdr_ok ok ⟨oo.s0, oo.s1, oo.g0, oo.g1, oo.rb⟩, ⟨rfl, rfl, rfl⟩, List.length_set ..⟩
end Fl

set_option Elab.async false
set_option linter.all false
set_option maxRecDepth 100000
set_option maxHeartbeats 4000000
namespace Fl
open PySem PySem.Spec PyProof.Rows L2
section
variable [c : Ctx]
section
variable {X : Cx} {e a b o : Expr} {Γ : Gm} {S S0 : HS} {pos ap tpos : Pos} {D : Ends} {rest : List Stmt} {p : Addr} {F : Flt} {x : Rob} {i : Int}
/-- m.robots[i] = e -/
theorem s_setRob {k0 : Nat} [hX : InC k0 X] (gg : Grow S0 S) (hM : MF S0 S p F) (he : ER X e Γ S x) (ho : ER X o Γ S (⟨p⟩ : Adr)) (hb : ER X b Γ S i) (h0 : 0 ≤ i) (h1 : i < F.robots.length)
    (k : ∀ S2 : HS, Grow S0 S2 → Same S.G S2.G → MF S0 S2 p (putRob F i x) → SB X rest D Γ S2) (hab : attributeBase o "robots" X.env (eval o X.env) = eval o X.env := by rfl)
    (hsub : ∀ v, assign (.Subscript (.Attribute o "robots" ap) b tpos) X.env v = (do
      let ov ← holding [v] (eval (.Attribute o "robots" ap) X.env)
      let iv ← holding [v, ov] (eval b X.env)
      standAt tpos
      holding [v, ov, iv] (setItem ov iv v)
      release [v, ov, iv] []) := by intro _; rfl) (hs : swapsWithSole [.Subscript (.Attribute o "robots" ap) b tpos] e pos.line X.env = pure false := by rfl) (hw : swappedStores [.Subscript (.Attribute o "robots" ap) b tpos] e X.env = pure none := by rfl)
    (h2 : (assignEach [.Subscript (.Attribute o "robots" ap) b tpos] X.env).map (·.2) = [assign (.Subscript (.Attribute o "robots" ap) b tpos) X.env] := by rfl) : SB X (.Assign [.Subscript (.Attribute o "robots" ap) b tpos] e pos :: rest) D Γ S := by
  obtain ⟨r, l, qs, m, f⟩ := hM
  refine s_seti m.ir he (er_fldM (t := ⟨(⟨r⟩ : Adr)⟩) m.ip lM_robots c_Fleet n_Fleet_robots ho hab) hb h0 h1 (fun S2 u2 m2 => ?_) hsub hs hw h2
  exact k S2 (gg.upd (f r (List.mem_cons_of_mem _ List.mem_cons_self)) u2) u2.g ⟨r, l, qs, m.robs u2 m2, f⟩
/-- m.robots[i] -/
theorem er_mrob {k0 : Nat} [hX : InC k0 X] (hM : MF S0 S p F) (ho : ER X o Γ S (⟨p⟩ : Adr)) (hb : ER X b Γ S i) (h0 : 0 ≤ i) (h : F.robots[i.toNat]? = some x) (hab : attributeBase o "robots" X.env (eval o X.env) = eval o X.env := by rfl) (hs : PlainIx b := by exact fun _ _ => rfl) :
    ER X (.Subscript (.Attribute o "robots" ap) b pos) Γ S x := by
  obtain ⟨r, l, qs, m, f⟩ := hM
  exact er_ixM m.ir (er_fldM (t := ⟨(⟨r⟩ : Adr)⟩) m.ip lM_robots c_Fleet n_Fleet_robots ho hab) hb h0 h hs
end
def preStep (a : Flt × Int × Int × Unit) : Prop := a.1.Ok ∧ 0 ≤ a.2.1 ∧ a.2.1 < a.1.robots.length
theorem cal_step : Cal "step" 6 (SpF preStep fun a => stepF a.1 a.2.1 a.2.2.1) := by
  refine mkCalN (d := d_step) i_step sc_step g_step (fun f cdv A outer s S a Q E hp hX hq => ?_) (hb := fun _ _ _ _ _ _ us hl => match us, hl with | [_, _, _], _ => rfl)
  obtain ⟨F, r, p, ⟨⟩⟩ := a
  obtain ⟨ok, r0, r1⟩ : F.Ok ∧ 0 ≤ r ∧ r < F.robots.length := hp
  replace hq : ∀ (S1 : HS) (v : V) (y : Option Flt), Grow S S1 → Rp.rep S1.G v (⟨y⟩ : New S.H (Option Flt)) → y = stepF F r p → Q v S1.H := hq
  have nd := sc_step.nd
  have ro := ok.robI r0 r1
  have hrb := Flt.rob_at r0 r1
  have hn4 := ok.n4
  show SB _ _ _ [some ⟨F⟩, some ⟨r⟩, some ⟨p⟩, none, none, none, none, none, none] S
  refine s_set (x := F.floor) 3 nd (eFlt_floor (er_var 0)) fun S1 g1 => ?_
  refine s_if (tr_or (tr_bool (eRob_broken (er_ix (eFlt_robots (er_var 0)) (er_var 1) r0 hrb))) fun _ => tr_cmp (cv_niL (er_var 2) (ev_meth cal_around (fun _ _ h => h) (lFlo_around_no F.floor) (er_var 3) (ar_cons (eRob_place (er_ix (eFlt_robots (er_var 0)) (er_var 1) r0 hrb)) ar_nil) ⟨ok.fl, ro.p0, ro.p1⟩).er)) (fun t S2 g2 => ?_) (fun t S2 g2 => s_end ?_)
  · refine s_ret er_noneN fun S3 v g3 rv => hq S3 v none ((g1.trans g2).trans g3) rv ?_
    unfold stepF
    rw [if_pos (by
      rcases Bool.or_eq_true_iff.mp t with t | t
      · exact .inl t
      · exact .inr (by simpa using t))]
  have hn : ¬ ((F.rob r).broken = true ∨ p ∉ F.floor.around (F.rob r).place) := by
    obtain ⟨t1, t2⟩ := Bool.or_eq_false_iff.mp t
    rintro (z | z)
    · rw [z] at t1
      cases t1
    · have t2 : (!decide (p ∈ F.floor.around (F.rob r).place)) = false := t2
      rw [decide_eq_false z] at t2
      cases t2
  have har : p ∈ F.floor.around (F.rob r).place := Classical.not_not.mp fun z => hn (.inr z)
  have pr := around_in ok.fl ro.p0 ro.p1 p har
  have g12 := g1.trans g2
  refine s_if (tr_cmp (cv_eqI (er_var 2) (eFlo_depot (er_var 3)))) (fun t S3 g3 => ?_) (fun t S3 g3 => s_end ?_)
  · have g13 := g12.trans g3
    have hd : p = F.floor.depot := of_decide_eq_true t
    refine s_twin 4 nd (er_var 0) ok.few fun S4 m g4 hM => ?_
    have hM := hM.less g13
    have g14 := g13.trans g4
    refine s_setRob (x := ⟨p, false, []⟩) g14 hM (NI.er (ni_Robot1 (er_var 2)) fun H v h => h) (er_var 4) (er_var 1) r0 r1 fun S5 g5 s5 hM5 => ?_
    refine SB.fixN 4 g5 hM5 fun S6 e6 g6 s6 => ?_
    refine s_ret (er_someF (er_var 4)) fun S7 v g7 rv => hq S7 v _ (g6.trans g7) rv ?_
    unfold stepF
    rw [if_neg hn, if_pos hd]
  · have g13 := g12.trans g3
    have hd : ¬ p = F.floor.depot := of_decide_eq_false t
    have hp1 : p < F.floor.size := by
      have : ¬ p = F.floor.size := hd
      omega
    refine s_if (tr_cmp (cv_inL (er_var 2) (ev_meth0 cal_taken (fun _ _ h => h) (lFlt_taken_no F) (er_var 0) ok.few).er)) (fun t S4 g4 => ?_) (fun t S4 g4 => s_end ?_)
    · refine s_ret er_noneN fun S5 v g5 rv => hq S5 v none ((g13.trans g4).trans g5) rv ?_
      unfold stepF
      rw [if_neg hn, if_neg hd, if_pos (of_decide_eq_true t)]
    have ht : ¬ p ∈ F.taken := of_decide_eq_false t
    have g14 := g13.trans g4
    have rl : F.running.length ≤ 4 := by
      have := (kept_ok ok (run_nodup F) fun n hn => run_mem hn)
      unfold Flt.running
      rw [List.length_map]
      have := List.length_filter_le (fun q : Int × Rob => F.off q.2 && !q.2.broken) (enumI F.robots)
      rw [enum_len] at this
      omega
    have ol := others_len F r
    refine s_setLcI (h := fun n : Int => n) 6 5 (fun n : Int => !decide (n = r)) rfl nd (it_list (ev_meth0 cal_running (fun _ _ h => h) (lFlt_running_no F) (er_var 0) ok.few).er) (by show F.running.length ≤ _; omega) (blkOk_by (N := N_step) (sc := defScope s_step) (by decide +kernel)) (fun x _ S5 g5 X' hb => ?_) (fun x _ _ S5 g5 X' hb => ?_) (fun S5 q g5 q0 m5 => ?_) (sw_true rfl rfl rfl (by decide +kernel))
    · obtain ⟨_, _, _, _, _, rfl⟩ := hb
      exact tr_cmp (cv_neI (er_var 5) (er_var 1))
    · obtain ⟨_, _, _, _, _, rfl⟩ := hb
      exact er_var 5
    rw [List.map_id'] at m5
    refine SB.fixM (xs := othersOf F r) 6 (g14.trans g5) (g14.h.free q0) m5 fun S6 e6 g6 s6 n6 => ?_
    have K := kept_ok ok (others_nodup F r) fun n hn => (others_mem hn).1
    refine s_setV 7 nd (ev_call cal_add_way (u := (F.floor, F.closed, F.keptWays (othersOf F r), p, ())) (ar_cons (er_var 3) (ar_cons (ev_meth0 cal_closed (fun _ _ h => h) (lFlt_closed_no F) (er_var 0) ok.few).er (ar_cons (ev_meth cal_kept (fun _ _ h => h) (lFlt_kept_ways_no F) (er_var 0) (ar_cons (er_var 6) ar_nil) ⟨ok.few, by show (othersOf F r).length ≤ 1000; omega, fun n hn => by have := (others_mem hn).1; exact ⟨this.1, this.2.1⟩⟩).er (ar_cons (er_var 2) ar_nil)))) ⟨ok.fl, K, pr.1, hp1⟩) fun S7 y g7 hy => ?_
    obtain ⟨ey, hpw⟩ : y = addWay F.floor F.closed (F.keptWays (othersOf F r)) p ∧ PostWays F.floor (F.keptWays (othersOf F r)) y := hy
    have g17 := g6.trans g7
    refine s_if (tr_cmp (cv_isN (er_var 7))) (fun t S8 g8 => ?_) (fun t S8 g8 => s_end ?_)
    · have : y = none := Option.isNone_iff_eq_none.mp t
      subst this
      refine s_ret er_noneN fun S9 v g9 rv => hq S9 v none ((g17.trans g8).trans g9) rv ?_
      unfold stepF
      rw [if_neg hn, if_neg hd, if_neg ht, ← ey]
      rfl
    obtain ⟨ws, rfl⟩ : ∃ ws, y = some ws := by
      cases y with
      | none => cases t
      | some w => exact ⟨w, rfl⟩
    obtain ⟨W, hwl⟩ := hpw ws rfl
    have hwl : ws.length = (othersOf F r).length + 1 := by rw [hwl]; unfold Flt.keptWays; rw [List.length_map]
    refine s_twin 4 nd (er_var 0) ok.few fun S9 m g9 hM => ?_
    have g18 := g17.trans g8
    have hM := hM.less g18
    have hbd : ∀ q ∈ (othersOf F r).zip ws, 0 ≤ q.1 ∧ q.1 < F.robots.length := fun q hq => by
      have := (others_mem (List.of_mem_zip (a := q.1) (b := q.2) hq).1).1
      exact ⟨this.1, this.2.1⟩
    refine s_for PassesOwn.never rfl (it_zip b_zip (er_var 6) (er_out (er_var 7))) (bg_pair rfl (bg_name 5 nd) (bg_name 8 nd)) fun S10 g10 => ?_
    refine ⟨fun rr Γ' S' => ∃ rs : List Rob, Γ' = [some ⟨F⟩, some ⟨r⟩, some ⟨p⟩, some ⟨F.floor⟩, some ⟨(⟨m⟩ : Adr)⟩, none, some ⟨othersOf F r⟩, some ⟨some ws⟩, none] ∧ Grow S S' ∧ Same S10.G S'.G ∧ MF S S' m { F with robots := rs } ∧ rs.length = F.robots.length ∧ (∀ q ∈ rr, 0 ≤ q.1 ∧ q.1 < F.robots.length) ∧ rr.foldl stepSet rs = ((othersOf F r).zip ws).foldl stepSet F.robots,
      ⟨F.robots, rfl, (g18.trans g9).trans g10, Same.refl _, hM.up g10, rfl, hbd, rfl⟩, fun rr Γ' S' ⟨_, _, _, h, _⟩ => h, ?_, ?_⟩
    · rintro pre ⟨n, w⟩ rr Γ' S' hx ⟨rs, rfl, gS, s10, hM, hl, hb, hf⟩ S11 g11
      have hnb := hb (n, w) List.mem_cons_self
      have hat : rs[n.toNat]? = some (rs.getD n.toNat rob0) := getD_at hnb.1 (by rw [hl]; exact hnb.2)
      have hM11 := hM.up g11
      refine s_setRob (x := ⟨(rs.getD n.toNat rob0).place, false, w⟩) (gS.trans g11) hM11 (NI.er (ni_Robot3 (eRob_place (er_mrob hM11 (er_var 4) (er_var 5) hnb.1 hat)) er_bl (er_var 8)) fun H v h => h) (er_var 4) (er_var 5) hnb.1 (by show n < (rs.length : Int); rw [hl]; exact hnb.2) fun S12 g12' s12 hM12 => s_next (.keep (.keep (.keep (.keep (.keep (.drop (.keep (.keep (.drop .nil))))))))) ?_
      exact ⟨stepSet rs (n, w), rfl, g12', (s10.trans g11.g).trans s12, hM12, by rw [stepSet_len, hl], fun q hq => hb q (List.mem_cons_of_mem _ hq), hf⟩
    · rintro Γ' S' ⟨rs, rfl, gS, s10, hM, hl, _, hf⟩
      have hf : rs = ((othersOf F r).zip ws).foldl stepSet F.robots := hf
      have hlast : ws.getLast? = some (ws.getLast?.getD []) := by
        rw [List.getLast?_eq_getElem?, List.getElem?_eq_getElem (by omega)]
        rfl
      refine s_setRob (x := ⟨p, false, ws.getLast?.getD []⟩) gS hM (NI.er (ni_Robot3 (er_var 2) er_bl (er_ixL (er_out (er_var 7)) (er_neg er_int) hlast)) fun H v h => h) (er_var 4) (er_var 1) r0 (by show r < (rs.length : Int); rw [hl]; exact r1) fun S12 g12' s12 hM12 => ?_
      refine SB.fixN 4 g12' hM12 fun S13 e13 g13' s13 => ?_
      refine s_ret (er_someF (er_var 4)) fun S14 v g14' rv => hq S14 v _ (g13'.trans g14') rv ?_
      unfold stepF
      rw [if_neg hn, if_neg hd, if_neg ht, ← ey]
      show some _ = some (stepWith F r p ws)
      unfold stepWith
      rw [← hf]
theorem cut_from1 {α : Type} (xs : List α) : cutL xs (some 1) none = xs.drop 1 := by
  unfold cutL
  rw [HT.sIx_none, show (1 : Int) = ((1 : Nat) : Int) from rfl, HT.sIx_nat]
  cases xs with
  | nil => rfl
  | cons a r =>
    rw [List.length_cons, show min 1 (r.length + 1) = 1 by omega]
    exact List.take_of_length_le (by rw [List.length_drop, List.length_cons]; omega)
theorem cal_step_home : Cal "step_home" 6 (SpF (fun a : Flt × Int × Unit => a.1.Ok ∧ 0 ≤ a.2.1 ∧ a.2.1 < a.1.robots.length) fun a => stepHome a.1 a.2.1) := by
  refine mkCalN (d := d_step_home) i_step_home sc_step_home g_step_home (fun f cdv A outer s S a Q E hp hX hq => ?_) (hb := fun _ _ _ _ _ _ us hl => match us, hl with | [_, _], _ => rfl)
  obtain ⟨F, r, ⟨⟩⟩ := a
  obtain ⟨ok, r0, r1⟩ : F.Ok ∧ 0 ≤ r ∧ r < F.robots.length := hp
  replace hq : ∀ (S1 : HS) (v : V) (y : Flt), Grow S S1 → Rp.rep S1.G v (⟨y⟩ : New S.H Flt) → y = stepHome F r → Q v S1.H := hq
  have nd := sc_step_home.nd
  have hrb := Flt.rob_at r0 r1
  show SB _ _ _ [some ⟨F⟩, some ⟨r⟩, none, none] S
  refine s_twin 2 nd (er_var 0) ok.few fun S1 m g1 hM => ?_
  refine s_set (x := (F.rob r).way) 3 nd (eRob_way (er_ix (eFlt_robots (er_var 0)) (er_var 1) r0 hrb)) fun S2 g2 => ?_
  refine s_if (tr_cmp (cv_gt (er_len b_len (er_var 3)) er_int)) (fun t S3 g3 => ?_) (fun t S3 g3 => ?_)
  · have hl : 1 < (F.rob r).way.length := by have := of_decide_eq_true t; omega
    have e1 : (F.rob r).way[(1 : Int).toNat]? = some ((F.rob r).way.getD 1 0) := by
      rw [List.getD_eq_getElem?_getD]
      show (F.rob r).way[1]? = _
      rw [List.getElem?_eq_getElem hl]
      rfl
    have ec : cutL (F.rob r).way (some 1) none = (F.rob r).way.drop 1 := cut_from1 _
    refine s_setRob (x := ⟨(F.rob r).way.getD 1 0, false, (F.rob r).way.drop 1⟩) ((g1.trans g2).trans g3) ((hM.up g2).up g3) (NI.er (ni_Robot3 (er_ix (er_var 3) er_int (by decide) e1) er_bl (by rw [← ec]; exact er_sl_from (er_var 3) er_int)) fun H v h => h) (er_var 2) (er_var 1) r0 r1 fun S4 g4 s4 hM4 => s_end ?_
    refine SB.fixN 2 g4 hM4 fun S5 e5 g5 s5 => ?_
    refine s_ret (er_var 2) fun S6 v g6 rv => hq S6 v _ (g5.trans g6) rv ?_
    unfold stepHome homeRob
    rw [if_pos hl]
  · have hl : ¬ 1 < (F.rob r).way.length := by have := of_decide_eq_false t; omega
    refine s_setRob (x := ⟨F.floor.depot, false, []⟩) ((g1.trans g2).trans g3) ((hM.up g2).up g3) (NI.er (ni_Robot1 (eFlo_depot (eFlt_floor (er_var 0)))) fun H v h => h) (er_var 2) (er_var 1) r0 r1 fun S4 g4 s4 hM4 => s_end ?_
    refine SB.fixN 2 g4 hM4 fun S5 e5 g5 s5 => ?_
    refine s_ret (er_var 2) fun S6 v g6 rv => hq S6 v _ (g5.trans g6) rv ?_
    unfold stepHome homeRob
    rw [if_neg hl]
end
end Fl

set_option Elab.async false
set_option linter.all false
set_option maxRecDepth 100000
set_option maxHeartbeats 4000000
namespace Fl
open PySem PySem.Spec PyProof.Rows L2
def onOf (F : Flt) (r p : Int) : Option (Str × Flt) := (stepF F r p).map fun G => ("on", G)
def plainAct (F : Flt) (n r : Int) : Option (Str × Flt) := if (F.rob r).place ∈ F.aim n then some (handleF F n) else ((nearer F (F.aim n) r).find? fun p => (stepF F r p).isSome).bind (onOf F r)
def firstGoes (F : Flt) : Bool := match firstRobot F with
  | none => true
  | some r => (plainAct F ((F.orderOf r).getD 0) r).isSome
def goesOn (F : Flt) (r p : Int) : Bool := match stepF F r p with
  | none => false
  | some G => firstGoes G
def carefulAct (F : Flt) (n r : Int) : Option (Str × Flt) := ((nearer F (F.aim n) r).find? (goesOn F r)).bind (onOf F r)
def idleAct (F : Flt) (r : Int) : Option (Str × Flt) := if (F.rob r).place = F.floor.depot then none else if (!firstGoes F || firstGoes (stepHome F r)) = true then some ("home", stepHome F r) else none
def actOf (F : Flt) (r : Int) : Option (Str × Flt) := if (F.rob r).broken = true then none else match F.orderOf r with
  | none => idleAct F r
  | some n => if (F.rob r).place ∈ F.aim n ∨ firstRobot F = some r then plainAct F n r else if firstGoes F = true then carefulAct F n r else if (F.rob r).place = F.floor.depot then none else some ("home", stepHome F r)
theorem orderOf_some {F : Flt} {r n : Int} (h : F.orderOf r = some n) : 0 ≤ n ∧ n < F.orders.length ∧ (F.odr n).done = false ∧ (F.odr n).robot = some r := by
  unfold Flt.orderOf at h
  obtain ⟨q, hq, rfl⟩ := Option.map_eq_some_iff.mp h
  have h1 := List.find?_some hq
  obtain ⟨i, o⟩ := q
  obtain ⟨a, b, e⟩ := enum_mem (List.mem_of_find?_eq_some hq)
  have eo : F.odr i = o := by
    have := Flt.odr_at (F := F) a b
    rw [e] at this
    exact (Option.some.inj this).symm
  obtain ⟨t1, t2⟩ := Bool.and_eq_true_iff.mp h1
  exact ⟨a, b, by rw [eo]; simpa using t1, by rw [eo]; exact of_decide_eq_true t2⟩
theorem orderOf_has {F : Flt} {r : Int} {i : Nat} {o : Odr} (h : F.orders[i]? = some o) (hd : o.done = false) (hr : o.robot = some r) : ∃ n, F.orderOf r = some n := by
  have : ((enumI F.orders).find? fun q => !q.2.done && decide (q.2.robot = some r)).isSome = true := by
    rw [List.find?_isSome]
    exact ⟨((i : Int), o), List.mem_of_getElem? (enum_get h), by simp [hd, hr]⟩
  obtain ⟨q, hq⟩ := Option.isSome_iff_exists.mp this
  exact ⟨q.1, by unfold Flt.orderOf; rw [hq]; rfl⟩
theorem firstRobot_some {F : Flt} (ok : F.Ok) {r : Int} (h : firstRobot F = some r) : 0 ≤ r ∧ r < F.robots.length ∧ ∃ n, F.orderOf r = some n := by
  unfold firstRobot at h
  obtain ⟨q, hq, hr⟩ := Option.bind_eq_some_iff.mp h
  have h1 := List.find?_some hq
  obtain ⟨i, o⟩ := q
  obtain ⟨a, b, e⟩ := enum_mem (List.mem_of_find?_eq_some hq)
  have oo := ok.odr o (List.mem_of_getElem? e)
  have hr : o.robot = some r := hr
  obtain ⟨r0, r1⟩ := oo.rb r hr
  unfold takerAt at h1
  have hd : o.done = false := by simpa using (Bool.and_eq_true_iff.mp h1).1
  exact ⟨r0, r1, orderOf_has e hd hr⟩
structure Kept (F G : Flt) : Prop where
  ok : G.Ok
  s : Same0 F G
  no : G.orders.length = F.orders.length
theorem onOf_ok [Ctx] {F : Flt} (ok : F.Ok) {r p : Int} (r0 : 0 ≤ r) (r1 : r < F.robots.length) {y : Str × Flt} (h : onOf F r p = some y) : Kept F y.2 := by
  obtain ⟨G, hG, rfl⟩ := Option.map_eq_some_iff.mp h
  obtain ⟨a, b, e⟩ := stepF_ok ok r0 r1 hG
  exact ⟨a, b, by rw [e]⟩
theorem plainAct_ok [Ctx] {F : Flt} (ok : F.Ok) {n r : Int} (n0 : 0 ≤ n) (n1 : n < F.orders.length) (r0 : 0 ≤ r) (r1 : r < F.robots.length) {y : Str × Flt} (h : plainAct F n r = some y) : Kept F y.2 := by
  unfold plainAct at h
  split at h
  · cases h
    obtain ⟨a, b, e⟩ := handleF_ok ok n0 n1
    exact ⟨a, b, e⟩
  · obtain ⟨p, _, hp⟩ := Option.bind_eq_some_iff.mp h
    exact onOf_ok ok r0 r1 hp
theorem home_ok {F : Flt} (ok : F.Ok) {r : Int} (r0 : 0 ≤ r) (r1 : r < F.robots.length) : Kept F (stepHome F r) := by
  obtain ⟨a, b, e⟩ := stepHome_ok ok r0 r1
  exact ⟨a, b, by rw [e]⟩
theorem actOf_ok [Ctx] {F : Flt} (ok : F.Ok) {r : Int} (r0 : 0 ≤ r) (r1 : r < F.robots.length) {y : Str × Flt} (h : actOf F r = some y) : Kept F y.2 := by
  unfold actOf at h
  split at h
  · cases h
  · cases e : F.orderOf r with
    | none =>
      rw [e] at h
      have h : idleAct F r = some y := h
      unfold idleAct at h
      split at h
      · cases h
      · split at h
        · cases h
          exact home_ok ok r0 r1
        · cases h
    | some n =>
      rw [e] at h
      obtain ⟨n0, n1, _⟩ := orderOf_some e
      dsimp only at h
      split at h
      · exact plainAct_ok ok n0 n1 r0 r1 h
      · split at h
        · unfold carefulAct at h
          obtain ⟨p, _, hp⟩ := Option.bind_eq_some_iff.mp h
          exact onOf_ok ok r0 r1 hp
        · split at h
          · cases h
          · cases h
            exact home_ok ok r0 r1
section
variable [c : Ctx]
theorem cal_handle : Cal "handle" 6 (SpF (fun a : Flt × Int × Unit => a.1.Ok ∧ 0 ≤ a.2.1 ∧ a.2.1 < a.1.orders.length) fun a => handleF a.1 a.2.1) := by
  refine mkCalN (d := d_handle) i_handle sc_handle g_handle (fun f cdv A outer s S a Q E hp hX hq => ?_) (hb := fun _ _ _ _ _ _ us hl => match us, hl with | [_, _], _ => rfl)
  obtain ⟨F, n, ⟨⟩⟩ := a
  obtain ⟨ok, n0, n1⟩ : F.Ok ∧ 0 ≤ n ∧ n < F.orders.length := hp
  replace hq : ∀ (S1 : HS) (v : V) (y : Str × Flt), Grow S S1 → Rp.rep S1.G v (⟨y⟩ : New S.H (Str × Flt)) → y = handleF F n → Q v S1.H := hq
  have nd := sc_handle.nd
  have hn := Flt.odr_at n0 n1
  show SB _ _ _ [some ⟨F⟩, some ⟨n⟩, none, none] S
  refine s_twin 2 nd (er_var 0) ok.few fun S1 p g1 hM => ?_
  obtain ⟨r, l, qs, m, fr⟩ := hM
  obtain ⟨q, hq1, hq2⟩ := m.at_ hn
  have q0 : S.H q = none := fr q (List.mem_cons_of_mem _ (List.mem_cons_of_mem _ (List.mem_cons_of_mem _ (List.mem_of_getElem? hq1))))
  refine s_set (x := (⟨q⟩ : Adr)) 3 nd (er_ixM m.io (er_fldM (t := ⟨(⟨l⟩ : Adr)⟩) m.ip lM_orders c_Fleet n_Fleet_orders (er_var 2)) (er_var 1) n0 (by rw [List.getElem?_map, hq1]; rfl)) fun S2 g2 => ?_
  refine s_if (tr_not (tr_bool (er_fldM (t := ⟨(F.odr n).loaded⟩) (hq2.up g2) (lOdr_loaded (F.odr n)) c_Order n_Order_loaded (er_var 3)))) (fun t S3 g3 => ?_) (fun t S3 g3 => s_end ?_)
  · refine s_methM0 cal_load ((hq2.up g2).up g3) (lOdr_load_no (F.odr n)) (er_var 3) fun S4 u4 m4 => ?_
    refine SB.fixN (F := putOdr F n { F.odr n with loaded := true }) 2 (((g1.trans g2).trans g3).upd q0 u4) ⟨r, l, qs, ((m.up g2).up g3).odr hq1 u4 m4, fr⟩ fun S5 e5 g5 s5 => ?_
    refine s_ret (er_pairN er_str (er_var 2)) fun S6 v g6 rv => hq S6 v _ (g5.trans g6) rv ?_
    unfold handleF
    rw [if_neg (by simpa using t)]
  · refine s_methM0 cal_finish ((hq2.up g2).up g3) (lOdr_finish_no (F.odr n)) (er_var 3) fun S4 u4 m4 => ?_
    refine SB.fixN (F := putOdr F n { F.odr n with robot := none, loaded := false, done := true }) 2 (((g1.trans g2).trans g3).upd q0 u4) ⟨r, l, qs, ((m.up g2).up g3).odr hq1 u4 m4, fr⟩ fun S5 e5 g5 s5 => ?_
    refine s_ret (er_pairN er_str (er_var 2)) fun S6 v g6 rv => hq S6 v _ (g5.trans g6) rv ?_
    unfold handleF
    rw [if_pos (by simpa using t)]
def preAct (a : Flt × Int × Int × Unit) : Prop := a.1.Ok ∧ 0 ≤ a.2.1 ∧ a.2.1 < a.1.orders.length ∧ 0 ≤ a.2.2.1 ∧ a.2.2.1 < a.1.robots.length
theorem cal_plain_act : Cal "plain_act" 7 (SpF preAct fun a => plainAct a.1 a.2.1 a.2.2.1) := by
  refine mkCalN (d := d_plain_act) i_plain_act sc_plain_act g_plain_act (fun f cdv A outer s S a Q E hp hX hq => ?_) (hb := fun _ _ _ _ _ _ us hl => match us, hl with | [_, _, _], _ => rfl)
  obtain ⟨F, n, r, ⟨⟩⟩ := a
  obtain ⟨ok, n0, n1, r0, r1⟩ : F.Ok ∧ 0 ≤ n ∧ n < F.orders.length ∧ 0 ≤ r ∧ r < F.robots.length := hp
  replace hq : ∀ (S1 : HS) (v : V) (y : Option (Str × Flt)), Grow S S1 → Rp.rep S1.G v (⟨y⟩ : New S.H (Option (Str × Flt))) → y = plainAct F n r → Q v S1.H := hq
  have nd := sc_plain_act.nd
  have hrb := Flt.rob_at r0 r1
  have ha := aim_in ok n0 n1
  show SB _ _ _ [some ⟨F⟩, some ⟨n⟩, some ⟨r⟩, none, none] S
  refine s_if (tr_cmp (cv_inL (eRob_place (er_ix (eFlt_robots (er_var 0)) (er_var 2) r0 hrb)) (ev_meth cal_aim (fun _ _ h => h) (lFlt_aim_no F) (er_var 0) (ar_cons (er_var 1) ar_nil) ⟨ok, n0, n1⟩).er)) (fun t S1 g1 => ?_) (fun t S1 g1 => s_end ?_)
  · refine s_ret (er_someP (s := (handleF F n).1) (x := (handleF F n).2) (ER.less (er_callN cal_handle (u := (F, n, ())) (ar_cons (er_var 0) (ar_cons (er_var 1) ar_nil)) ⟨ok, n0, n1⟩) g1)) fun S2 v g2 rv => hq S2 v _ (g1.trans g2) rv ?_
    unfold plainAct
    rw [if_pos (of_decide_eq_true t)]
  have hna : ¬ (F.rob r).place ∈ F.aim n := of_decide_eq_false t
  refine s_search2 (fun p => (stepF F r p).isSome) PassesOwn.never rfl (it_list (er_call cal_nearer (u := (F, F.aim n, r, ())) (ar_cons (er_var 0) (ar_cons (ev_meth cal_aim (fun _ _ h => h) (lFlt_aim_no F) (er_var 0) (ar_cons (er_var 1) ar_nil) ⟨ok, n0, n1⟩).er (ar_cons (er_var 2) ar_nil))) ⟨ok, ha.1, ha.2, r0, r1⟩)) (bg_name 3 nd) (fun p hp S2 g2 D' hD hnx hf => ?_) (fun hf S2 g2 => ?_)
  · refine s_set (x := (⟨stepF F r p⟩ : New S.H (Option Flt))) 4 nd (ER.less (er_callN cal_step (u := (F, r, p, ())) (ar_cons (er_var 0) (ar_cons (er_var 2) (ar_cons (er_var 3) ar_nil))) ⟨ok, r0, r1⟩) (g1.trans g2)) fun S3 g3 => ?_
    refine s_if (tr_cmp (cv_notN (ER.old (er_var 4)))) (fun t S4 g4 => ?_) (fun t S4 g4 => s_end (s_nil fun σ hσ => hnx t S4 (g3.trans g4) σ (hσ.wk (.keep (.keep (.keep (.drop (.drop .nil))))))))
    obtain ⟨G, hG⟩ := Option.isSome_iff_exists.mp t
    refine s_ret (er_someP (er_pairN er_str (er_outN (x := G) (by rw [← hG]; exact er_var 4)))) fun S5 v g5 rv => ?_
    rw [show (_ : VK) = _ from hD]
    refine hq S5 v _ ((((g1.trans g2).trans g3).trans g4).trans g5) rv ?_
    unfold plainAct
    rw [if_neg hna, hf t]
    show _ = onOf F r p
    unfold onOf
    rw [hG]
    rfl
  · refine s_ret er_noneN fun S3 v g3 rv => hq S3 v none ((g1.trans g2).trans g3) rv ?_
    unfold plainAct
    rw [if_neg hna, hf]
    rfl
theorem cal_first_goes : Cal "first_goes" 8 (Spf (fun a : Flt × Unit => a.1.Ok) fun a => firstGoes a.1) := by
  refine mkCal (d := d_first_goes) i_first_goes sc_first_goes g_first_goes (fun f cdv A outer s S a Q E hp hX hq => ?_) (hb := fun _ _ _ _ _ _ us hl => match us, hl with | [_], _ => rfl)
  obtain ⟨F, ⟨⟩⟩ := a
  have ok : F.Ok := hp
  replace hq : ∀ S1 v y, Grow S S1 → Rp.rep S1.G v y → y = firstGoes F → Q v S1.H := hq
  have nd := sc_first_goes.nd
  show SB _ _ _ [some ⟨F⟩, none] S
  refine s_set (x := firstRobot F) 1 nd (er_call cal_first_robot (u := (F, ())) (ar_cons (er_var 0) ar_nil) ok) fun S1 g1 => ?_
  refine s_if (tr_cmp (cv_isN (er_var 1))) (fun t S2 g2 => ?_) (fun t S2 g2 => s_end ?_)
  · have e := Option.isNone_iff_eq_none.mp t
    refine s_ret (x := true) er_bl fun S3 v g3 rv => hq S3 v _ ((g1.trans g2).trans g3) rv ?_
    unfold firstGoes
    rw [e]
  · obtain ⟨r, e⟩ : ∃ r, firstRobot F = some r := by
      cases e : firstRobot F with
      | none => rw [e] at t; cases t
      | some r => exact ⟨r, rfl⟩
    obtain ⟨r0, r1, n, hn⟩ := firstRobot_some ok e
    obtain ⟨n0, n1, _⟩ := orderOf_some hn
    refine s_ret (er_cmp (cv_notN (ER.old (er_callN cal_plain_act (u := (F, n, r, ())) (ar_cons (er_var 0) (ar_cons (er_out (by rw [← hn]; exact (ev_meth cal_order_of (fun _ _ h => h) (lFlt_order_of_no F) (er_var 0) (ar_cons (er_out (x := r) (by rw [← e]; exact er_var 1)) ar_nil) trivial).er)) (ar_cons (er_out (x := r) (by rw [← e]; exact er_var 1)) ar_nil))) ⟨ok, n0, n1, r0, r1⟩)))) fun S3 v g3 rv => hq S3 v _ ((g1.trans g2).trans g3) rv ?_
    unfold firstGoes
    rw [e]
    show _ = (plainAct F ((F.orderOf r).getD 0) r).isSome
    rw [hn]
    rfl
theorem cal_careful_act : Cal "careful_act" 9 (SpF preAct fun a => carefulAct a.1 a.2.1 a.2.2.1) := by
  refine mkCalN (d := d_careful_act) i_careful_act sc_careful_act g_careful_act (fun f cdv A outer s S a Q E hp hX hq => ?_) (hb := fun _ _ _ _ _ _ us hl => match us, hl with | [_, _, _], _ => rfl)
  obtain ⟨F, n, r, ⟨⟩⟩ := a
  obtain ⟨ok, n0, n1, r0, r1⟩ : F.Ok ∧ 0 ≤ n ∧ n < F.orders.length ∧ 0 ≤ r ∧ r < F.robots.length := hp
  replace hq : ∀ (S1 : HS) (v : V) (y : Option (Str × Flt)), Grow S S1 → Rp.rep S1.G v (⟨y⟩ : New S.H (Option (Str × Flt))) → y = carefulAct F n r → Q v S1.H := hq
  have nd := sc_careful_act.nd
  have ha := aim_in ok n0 n1
  show SB _ _ _ [some ⟨F⟩, some ⟨n⟩, some ⟨r⟩, none, none] S
  refine s_search2 (goesOn F r) PassesOwn.never rfl (it_list (er_call cal_nearer (u := (F, F.aim n, r, ())) (ar_cons (er_var 0) (ar_cons (ev_meth cal_aim (fun _ _ h => h) (lFlt_aim_no F) (er_var 0) (ar_cons (er_var 1) ar_nil) ⟨ok, n0, n1⟩).er (ar_cons (er_var 2) ar_nil))) ⟨ok, ha.1, ha.2, r0, r1⟩)) (bg_name 3 nd) (fun p hp S2 g2 D' hD hnx hf => ?_) (fun hf S2 g2 => ?_)
  · refine s_set (x := (⟨stepF F r p⟩ : New S.H (Option Flt))) 4 nd (ER.less (er_callN cal_step (u := (F, r, p, ())) (ar_cons (er_var 0) (ar_cons (er_var 2) (ar_cons (er_var 3) ar_nil))) ⟨ok, r0, r1⟩) g2) fun S3 g3 => ?_
    have eg : ((stepF F r p).isSome && goesOn F r p) = goesOn F r p := by
      unfold goesOn
      cases stepF F r p <;> rfl
    refine s_if (tr_and (p2 := default) (s := (stepF F r p).isSome) (t := goesOn F r p) (tr_cmp (cv_notN (ER.old (er_var 4)))) (fun t => by
      obtain ⟨G, hG⟩ := Option.isSome_iff_exists.mp t
      have e : goesOn F r p = firstGoes G := by unfold goesOn; rw [hG]
      rw [e]
      exact tr_bool (er_call cal_first_goes (u := (G, ())) (ar_cons (ER.old (er_outN (x := G) (by rw [← hG]; exact er_var 4))) ar_nil) (stepF_ok ok r0 r1 hG).1))) (fun t S4 g4 => ?_) (fun t S4 g4 => s_end (s_nil fun σ hσ => hnx (by rw [← eg]; exact t) S4 (g3.trans g4) σ (hσ.wk (.keep (.keep (.keep (.drop (.drop .nil))))))))
    rw [eg] at t
    obtain ⟨G, hG⟩ : ∃ G, stepF F r p = some G := by
      unfold goesOn at t
      cases e : stepF F r p with
      | none => rw [e] at t; cases t
      | some G => exact ⟨G, rfl⟩
    refine s_ret (er_someP (er_pairN er_str (er_outN (x := G) (by rw [← hG]; exact er_var 4)))) fun S5 v g5 rv => ?_
    rw [show (_ : VK) = _ from hD]
    refine hq S5 v _ (((g2.trans g3).trans g4).trans g5) rv ?_
    unfold carefulAct
    rw [hf t]
    show _ = onOf F r p
    unfold onOf
    rw [hG]
    rfl
  · refine s_ret er_noneN fun S3 v g3 rv => hq S3 v none (g2.trans g3) rv ?_
    unfold carefulAct
    rw [hf]
    rfl
theorem cal_idle_act : Cal "idle_act" 9 (SpF (fun a : Flt × Int × Unit => a.1.Ok ∧ 0 ≤ a.2.1 ∧ a.2.1 < a.1.robots.length) fun a => idleAct a.1 a.2.1) := by
  refine mkCalN (d := d_idle_act) i_idle_act sc_idle_act g_idle_act (fun f cdv A outer s S a Q E hp hX hq => ?_) (hb := fun _ _ _ _ _ _ us hl => match us, hl with | [_, _], _ => rfl)
  obtain ⟨F, r, ⟨⟩⟩ := a
  obtain ⟨ok, r0, r1⟩ : F.Ok ∧ 0 ≤ r ∧ r < F.robots.length := hp
  replace hq : ∀ (S1 : HS) (v : V) (y : Option (Str × Flt)), Grow S S1 → Rp.rep S1.G v (⟨y⟩ : New S.H (Option (Str × Flt))) → y = idleAct F r → Q v S1.H := hq
  have nd := sc_idle_act.nd
  have hrb := Flt.rob_at r0 r1
  have hk := home_ok ok r0 r1
  show SB _ _ _ [some ⟨F⟩, some ⟨r⟩, none] S
  refine s_if (tr_cmp (cv_eqI (eRob_place (er_ix (eFlt_robots (er_var 0)) (er_var 1) r0 hrb)) (eFlo_depot (eFlt_floor (er_var 0))))) (fun t S1 g1 => ?_) (fun t S1 g1 => s_end ?_)
  · refine s_ret er_noneN fun S3 v g3 rv => hq S3 v none (g1.trans g3) rv ?_
    unfold idleAct
    rw [if_pos (of_decide_eq_true t)]
  have hd := of_decide_eq_false t
  refine s_set (x := (⟨stepHome F r⟩ : New S.H Flt)) 2 nd (ER.less (er_callN cal_step_home (u := (F, r, ())) (ar_cons (er_var 0) (ar_cons (er_var 1) ar_nil)) ⟨ok, r0, r1⟩) g1) fun S2 g2 => ?_
  refine s_if (tr_or (tr_not (tr_bool (er_call cal_first_goes (u := (F, ())) (ar_cons (er_var 0) ar_nil) ok))) fun _ => tr_bool (er_call cal_first_goes (u := (stepHome F r, ())) (ar_cons (ER.old (er_var 2)) ar_nil) hk.ok)) (fun t S3 g3 => ?_) (fun t S3 g3 => s_end ?_)
  · refine s_ret (er_someP (er_pairN er_str (er_var 2))) fun S5 v g5 rv => hq S5 v _ (((g1.trans g2).trans g3).trans g5) rv ?_
    unfold idleAct
    rw [if_neg hd, if_pos t]
  · refine s_ret er_noneN fun S5 v g5 rv => hq S5 v none (((g1.trans g2).trans g3).trans g5) rv ?_
    unfold idleAct
    rw [if_neg hd, if_neg (by rw [show (!firstGoes F || firstGoes (stepHome F r)) = false from t]; decide)]
theorem cal_act_of : Cal "act_of" 10 (SpF (fun a : Flt × Int × Unit => a.1.Ok ∧ 0 ≤ a.2.1 ∧ a.2.1 < a.1.robots.length) fun a => actOf a.1 a.2.1) := by
  refine mkCalN (d := d_act_of) i_act_of sc_act_of g_act_of (fun f cdv A outer s S a Q E hp hX hq => ?_) (hb := fun _ _ _ _ _ _ us hl => match us, hl with | [_, _], _ => rfl)
  obtain ⟨F, r, ⟨⟩⟩ := a
  obtain ⟨ok, r0, r1⟩ : F.Ok ∧ 0 ≤ r ∧ r < F.robots.length := hp
  replace hq : ∀ (S1 : HS) (v : V) (y : Option (Str × Flt)), Grow S S1 → Rp.rep S1.G v (⟨y⟩ : New S.H (Option (Str × Flt))) → y = actOf F r → Q v S1.H := hq
  have nd := sc_act_of.nd
  have hrb := Flt.rob_at r0 r1
  show SB _ _ _ [some ⟨F⟩, some ⟨r⟩, none, none] S
  refine s_if (tr_bool (eRob_broken (er_ix (eFlt_robots (er_var 0)) (er_var 1) r0 hrb))) (fun t S1 g1 => ?_) (fun t S1 g1 => s_end ?_)
  · refine s_ret er_noneN fun S3 v g3 rv => hq S3 v none (g1.trans g3) rv ?_
    unfold actOf
    rw [if_pos t]
  have hb : ¬ (F.rob r).broken = true := by rw [t]; decide
  refine s_set (x := F.orderOf r) 2 nd (ev_meth cal_order_of (fun _ _ h => h) (lFlt_order_of_no F) (er_var 0) (ar_cons (er_var 1) ar_nil) trivial).er fun S2 g2 => ?_
  have g12 := g1.trans g2
  refine s_if (tr_cmp (cv_isN (er_var 2))) (fun t S3 g3 => ?_) (fun t S3 g3 => s_end ?_)
  · have e := Option.isNone_iff_eq_none.mp t
    refine s_ret (ER.less (er_callN cal_idle_act (u := (F, r, ())) (ar_cons (er_var 0) (ar_cons (er_var 1) ar_nil)) ⟨ok, r0, r1⟩) (g12.trans g3)) fun S4 v g4 rv => hq S4 v _ ((g12.trans g3).trans g4) rv ?_
    unfold actOf
    rw [if_neg hb, e]
  obtain ⟨n, e⟩ : ∃ n, F.orderOf r = some n := by
    cases e : F.orderOf r with
    | none => rw [e] at t; cases t
    | some n => exact ⟨n, rfl⟩
  obtain ⟨n0, n1, _⟩ := orderOf_some e
  have g13 := g12.trans g3
  refine s_set (x := (F.rob r).place) 3 nd (eRob_place (er_ix (eFlt_robots (er_var 0)) (er_var 1) r0 hrb)) fun S4 g4 => ?_
  have g14 := g13.trans g4
  rw [e]
  refine s_if (tr_or (tr_cmp (cv_inL (er_var 3) (ev_meth cal_aim (fun _ _ h => h) (lFlt_aim_no F) (er_var 0) (ar_cons (er_out (x := n) (er_var 2)) ar_nil) ⟨ok, n0, n1⟩).er)) fun _ => tr_cmp (cv_eqO (er_call cal_first_robot (u := (F, ())) (ar_cons (er_var 0) ar_nil) ok) (er_var 1))) (fun t S5 g5 => ?_) (fun t S5 g5 => s_end ?_)
  · refine s_ret (ER.less (er_callN cal_plain_act (u := (F, n, r, ())) (ar_cons (er_var 0) (ar_cons (er_out (x := n) (er_var 2)) (ar_cons (er_var 1) ar_nil))) ⟨ok, n0, n1, r0, r1⟩) (g14.trans g5)) fun S6 v g6 rv => hq S6 v _ ((g14.trans g5).trans g6) rv ?_
    unfold actOf
    rw [if_neg hb, e]
    dsimp only
    rw [if_pos (by simpa using t)]
  have hna : ¬ ((F.rob r).place ∈ F.aim n ∨ firstRobot F = some r) := by
    intro z
    have : (decide ((F.rob r).place ∈ F.aim n) || decide (firstRobot F = some r)) = true := by simpa using z
    rw [t] at this
    cases this
  refine s_if (tr_bool (er_call cal_first_goes (u := (F, ())) (ar_cons (er_var 0) ar_nil) ok)) (fun t S6 g6 => ?_) (fun t S6 g6 => s_end ?_)
  · refine s_ret (ER.less (er_callN cal_careful_act (u := (F, n, r, ())) (ar_cons (er_var 0) (ar_cons (er_out (x := n) (er_var 2)) (ar_cons (er_var 1) ar_nil))) ⟨ok, n0, n1, r0, r1⟩) ((g14.trans g5).trans g6)) fun S7 v g7 rv => hq S7 v _ (((g14.trans g5).trans g6).trans g7) rv ?_
    unfold actOf
    rw [if_neg hb, e]
    dsimp only
    rw [if_neg hna, if_pos t]
  have hfg : ¬ firstGoes F = true := by rw [show firstGoes F = false from t]; decide
  refine s_if (tr_cmp (cv_eqI (er_var 3) (eFlo_depot (eFlt_floor (er_var 0))))) (fun t S7 g7 => ?_) (fun t S7 g7 => s_end ?_)
  · refine s_ret er_noneN fun S8 v g8 rv => hq S8 v none ((((g14.trans g5).trans g6).trans g7).trans g8) rv ?_
    unfold actOf
    rw [if_neg hb, e]
    dsimp only
    rw [if_neg hna, if_neg hfg, if_pos (of_decide_eq_true t)]
  · refine s_ret (er_someP (er_pairN er_str (ER.less (er_callN cal_step_home (u := (F, r, ())) (ar_cons (er_var 0) (ar_cons (er_var 1) ar_nil)) ⟨ok, r0, r1⟩) (((g14.trans g5).trans g6).trans g7)))) fun S8 v g8 rv => hq S8 v _ ((((g14.trans g5).trans g6).trans g7).trans g8) rv ?_
    unfold actOf
    rw [if_neg hb, e]
    dsimp only
    rw [if_neg hna, if_neg hfg, if_neg (of_decide_eq_false t)]
end
end Fl

set_option Elab.async false
set_option linter.all false
set_option maxRecDepth 100000
set_option maxHeartbeats 4000000
namespace Fl
open PySem PySem.Spec PyProof.Rows L2
def nfBetter (d : Int) (best : Option (Int × Int)) : Bool := match best with
  | none => true
  | some b => decide (d < b.1)
def nfTurn (F : Flt) (sp : List (Option Int)) (best : Option (Int × Int)) (q : Int × Rob) : Option (Int × Int) := match sp.getD q.2.place.toNat none with
  | none => best
  | some d => if (F.isFree q.1 && nfBetter d best) = true then some (d, q.1) else best
def nearestFree (F : Flt) (cells : List Int) : Option Int := ((enumI F.robots).foldl (nfTurn F (distances F.floor F.closed cells)) none).map (·.2)
def nextPick (F : Flt) (n : Int) : Option Int := if (!(F.odr n).done && (F.odr n).robot.isNone) = true then nearestFree F (F.floor.stations.getD (F.odr n).start.toNat []) else none
def lastOf (F : Flt) : Int := if (F.orders.length : Int) < F.firstOpen + F.patience then F.orders.length else F.firstOpen + F.patience
def nextOrder (F : Flt) : Option (Int × Int) := ((rangeI F.firstOpen (lastOf F - F.firstOpen).toNat).find? fun n => (nextPick F n).isSome).bind fun n => (nextPick F n).map fun r => (n, r)
def giveF (F : Flt) (q : Int × Int) : Flt := putOdr F q.1 { F.odr q.1 with robot := some q.2 }
def assignGo : Nat → Flt → Flt
  | 0, F => F
  | n + 1, F => match nextOrder F with
    | none => F
    | some q => assignGo n (giveF F q)
def assignF (F : Flt) : Flt := assignGo F.robots.length F
theorem firstOpen_bd (F : Flt) : 0 ≤ F.firstOpen ∧ F.firstOpen ≤ F.orders.length := by
  unfold Flt.firstOpen
  cases h : (enumI F.orders).find? fun q => !q.2.done with
  | none => exact ⟨by show 0 ≤ (F.orders.length : Int); omega, Int.le_refl _⟩
  | some q =>
    obtain ⟨i, o⟩ := q
    obtain ⟨a, b, _⟩ := enum_mem (List.mem_of_find?_eq_some h)
    exact ⟨a, by show i ≤ _; omega⟩
theorem nf_free {F : Flt} {sp : List (Option Int)} : ∀ (qs : List (Int × Rob)) (best : Option (Int × Int)), (∀ b, best = some b → F.isFree b.2 = true ∧ 0 ≤ b.2 ∧ b.2 < F.robots.length) → (∀ q ∈ qs, 0 ≤ q.1 ∧ q.1 < F.robots.length) → ∀ b, qs.foldl (nfTurn F sp) best = some b → F.isFree b.2 = true ∧ 0 ≤ b.2 ∧ b.2 < F.robots.length
  | [], best, h, _, b, e => h b e
  | q :: qs, best, h, hq, b, e => by
    refine nf_free qs _ (fun b' hb' => ?_) (fun p hp => hq p (List.mem_cons_of_mem _ hp)) b e
    unfold nfTurn at hb'
    split at hb'
    · exact h b' hb'
    · split at hb'
      · next t =>
        cases hb'
        exact ⟨(Bool.and_eq_true_iff.mp t).1, hq q List.mem_cons_self⟩
      · exact h b' hb'
theorem nearest_free_ok {F : Flt} {cells : List Int} {r : Int} (h : nearestFree F cells = some r) : F.isFree r = true ∧ 0 ≤ r ∧ r < F.robots.length := by
  unfold nearestFree at h
  obtain ⟨b, hb, rfl⟩ := Option.map_eq_some_iff.mp h
  exact nf_free _ none (fun b e => by cases e) (fun q hq => by
    obtain ⟨i, x⟩ := q
    obtain ⟨a, b, _⟩ := enum_mem hq
    exact ⟨a, b⟩) b hb
theorem nextOrder_ok {F : Flt} (ok : F.Ok) {q : Int × Int} (h : nextOrder F = some q) : 0 ≤ q.1 ∧ q.1 < F.orders.length ∧ F.isFree q.2 = true ∧ 0 ≤ q.2 ∧ q.2 < F.robots.length ∧ (F.odr q.1).done = false ∧ (F.odr q.1).robot = none := by
  unfold nextOrder at h
  obtain ⟨n, hn, hr⟩ := Option.bind_eq_some_iff.mp h
  obtain ⟨r, hpk, rfl⟩ := Option.map_eq_some_iff.mp hr
  have hm := mem_rangeI.mp (List.mem_of_find?_eq_some hn)
  have hb := firstOpen_bd F
  have hl : lastOf F ≤ F.orders.length := by unfold lastOf; split <;> omega
  unfold nextPick at hpk
  split at hpk
  · next t =>
    obtain ⟨a, b, c⟩ := nearest_free_ok hpk
    obtain ⟨t1, t2⟩ := Bool.and_eq_true_iff.mp t
    exact ⟨by show 0 ≤ n; omega, by show n < _; omega, a, b, c, by simpa using t1, Option.isNone_iff_eq_none.mp t2⟩
  · cases hpk
theorem giveF_ok {F : Flt} (ok : F.Ok) {q : Int × Int} (h : nextOrder F = some q) : Kept F (giveF F q) := by
  obtain ⟨a, b, _, c, d, _⟩ := nextOrder_ok ok h
  have oo := ok.odrI a b
  exact ⟨putOdr_ok ok ⟨oo.s0, oo.s1, oo.g0, oo.g1, fun r hr => by cases hr; exact ⟨c, d⟩⟩, ⟨rfl, rfl, rfl⟩, List.length_set ..⟩
theorem Kept.trans {F G H : Flt} (a : Kept F G) (b : Kept G H) : Kept F H := ⟨b.ok, ⟨b.s.fl.trans a.s.fl, b.s.pt.trans a.s.pt, b.s.nr.trans a.s.nr⟩, b.no.trans a.no⟩
theorem Kept.refl {F : Flt} (ok : F.Ok) : Kept F F := ⟨ok, ⟨rfl, rfl, rfl⟩, rfl⟩
theorem assignGo_ok : ∀ (n : Nat) {F : Flt}, F.Ok → Kept F (assignGo n F)
  | 0, F, ok => .refl ok
  | n + 1, F, ok => by
    unfold assignGo
    cases h : nextOrder F with
    | none => exact .refl ok
    | some q =>
      have k := giveF_ok ok h
      exact k.trans (assignGo_ok n k.ok)
/-! ### behind the assignment no order waits -/
def freeN (F : Flt) : Nat := ((List.range F.robots.length).filter fun (i : Nat) => F.isFree (i : Int)).length
theorem give_free {F : Flt} (ok : F.Ok) {q : Int × Int} (h : nextOrder F = some q) : (∀ i : Int, (giveF F q).isFree i = true → F.isFree i = true) ∧ (giveF F q).isFree q.2 = false := by
  obtain ⟨a, b, _, c, d, hd, hr⟩ := nextOrder_ok ok h
  have hl : q.1.toNat < F.orders.length := by omega
  have hat : (giveF F q).orders[q.1.toNat]? = some { F.odr q.1 with robot := some q.2 } := by
    show (F.orders.set _ _)[_]? = _
    rw [List.getElem?_set_self hl]
  have hother : ∀ (i : Nat) (o : Odr), F.orders[i]? = some o → o.robot ≠ none → (giveF F q).orders[i]? = some o := fun i o hi hne => by
    show (F.orders.set _ _)[i]? = _
    rw [List.getElem?_set_ne]
    · exact hi
    · intro z
      rw [← z, Flt.odr_at a b] at hi
      rw [← Option.some.inj hi] at hne
      exact hne hr
  refine ⟨fun i hi => ?_, ?_⟩
  · obtain ⟨t1, t2⟩ := Bool.and_eq_true_iff.mp hi
    refine Bool.and_eq_true_iff.mpr ⟨t1, ?_⟩
    cases e : F.orderOf i with
    | none => rfl
    | some n =>
      exfalso
      obtain ⟨n0, n1, f1, f2⟩ := orderOf_some e
      have hn := hother n.toNat _ (Flt.odr_at n0 n1) (by rw [f2]; exact fun z => nomatch z)
      obtain ⟨m, hm⟩ := orderOf_has hn f1 f2
      rw [hm] at t2
      cases t2
  · unfold Flt.isFree
    obtain ⟨m, hm⟩ := orderOf_has hat (by exact hd) rfl
    rw [hm]
    exact Bool.and_false _
theorem freeN_less {F : Flt} (ok : F.Ok) {q : Int × Int} (h : nextOrder F = some q) : freeN (giveF F q) < freeN F := by
  obtain ⟨a, b, hfree, c, d, _⟩ := nextOrder_ok ok h
  obtain ⟨h1, h2⟩ := give_free ok h
  unfold freeN
  have e : (giveF F q).robots.length = F.robots.length := rfl
  rw [e]
  have hs : ((List.range F.robots.length).filter fun (i : Nat) => (giveF F q).isFree (i : Int)) = (((List.range F.robots.length).filter fun (i : Nat) => F.isFree (i : Int)).filter fun (i : Nat) => (giveF F q).isFree (i : Int)) := by
    rw [List.filter_filter]
    refine List.filter_congr fun i _ => ?_
    by_cases z : (giveF F q).isFree (i : Int) = true
    · rw [z, h1 _ z]
      rfl
    · rw [Bool.not_eq_true] at z
      rw [z]
      rfl
  rw [hs]
  have hm : q.2.toNat ∈ (List.range F.robots.length).filter fun (i : Nat) => F.isFree (i : Int) := List.mem_filter.mpr ⟨List.mem_range.mpr (by omega), by rw [Int.toNat_of_nonneg c]; exact hfree⟩
  refine Nat.lt_of_le_of_ne (List.length_filter_le _ _) fun z => ?_
  have := List.length_filter_eq_length_iff.mp z q.2.toNat hm
  rw [Int.toNat_of_nonneg c, h2] at this
  cases this
theorem freeN_none {F : Flt} (ok : F.Ok) (h : freeN F = 0) : nextOrder F = none := by
  cases e : nextOrder F with
  | none => rfl
  | some q =>
    have := freeN_less ok e
    omega
theorem assignGo_none : ∀ (n : Nat) {F : Flt}, F.Ok → freeN F ≤ n → nextOrder (assignGo n F) = none
  | 0, F, ok, h => (show nextOrder F = none from freeN_none ok (by omega))
  | n + 1, F, ok, h => by
    unfold assignGo
    cases e : nextOrder F with
    | none => exact e
    | some q =>
      have := freeN_less ok e
      exact assignGo_none n (giveF_ok ok e).ok (by omega)
theorem assign_none {F : Flt} (ok : F.Ok) : nextOrder (assignF F) = none := assignGo_none _ ok (by
  unfold freeN
  have := List.length_filter_le (fun (i : Nat) => F.isFree (i : Int)) (List.range F.robots.length)
  rw [List.length_range] at this
  exact this)
section
variable [c : Ctx]
theorem cal_nearest_free : Cal "nearest_free" 3 (Spf (fun a : Flt × List Int × Unit => a.1.Ok ∧ (∀ x ∈ a.2.1, 0 ≤ x ∧ x < a.1.floor.size) ∧ a.2.1.length ≤ 1000) fun a => nearestFree a.1 a.2.1) := by
  refine mkCal (d := d_nearest_free) i_nearest_free sc_nearest_free g_nearest_free (fun f cdv A outer s S a Q E hp hX hq => ?_) (hb := fun _ _ _ _ _ _ us hl => match us, hl with | [_, _], _ => rfl)
  obtain ⟨F, cells, ⟨⟩⟩ := a
  obtain ⟨ok, hc, hl⟩ : F.Ok ∧ (∀ x ∈ cells, 0 ≤ x ∧ x < F.floor.size) ∧ cells.length ≤ 1000 := hp
  replace hq : ∀ S1 v y, Grow S S1 → Rp.rep S1.G v y → y = nearestFree F cells → Q v S1.H := hq
  have nd := sc_nearest_free.nd
  show SB _ _ _ [some ⟨F⟩, some ⟨cells⟩, none, none, none, none, none] S
  refine s_set (x := distances F.floor F.closed cells) 2 nd (er_call cal_distances (u := (F.floor, F.closed, cells, ())) (ar_cons (eFlt_floor (er_var 0)) (ar_cons (ev_meth0 cal_closed (fun _ _ h => h) (lFlt_closed_no F) (er_var 0) ok.few).er (ar_cons (er_var 1) ar_nil))) ⟨ok.fl, hc, hl⟩) fun S1 g1 => ?_
  refine s_set (x := (none : Option (Int × Int))) 3 nd er_non fun S2 g2 => ?_
  refine s_for PassesOwn.never rfl (it_enum b_enumerate (eFlt_robots (er_var 0))) (bg_pair rfl (bg_name 4 nd) (bg_name 5 nd)) fun S3 g3 => ?_
  refine ⟨fun r Γ' S' => ∃ best : Option (Int × Int), Γ' = [some ⟨F⟩, some ⟨cells⟩, some ⟨distances F.floor F.closed cells⟩, some ⟨best⟩, none, none, none] ∧ Grow S S' ∧ Same S3.G S'.G ∧ (∀ q ∈ r, q ∈ enumI F.robots) ∧ r.foldl (nfTurn F (distances F.floor F.closed cells)) best = (enumI F.robots).foldl (nfTurn F (distances F.floor F.closed cells)) none,
    ⟨none, rfl, (g1.trans g2).trans g3, Same.refl _, fun q hq => hq, rfl⟩, fun r Γ' S' ⟨_, _, _, h, _⟩ => h, ?_, ?_⟩
  · rintro pre ⟨n, x⟩ r Γ' S' hx ⟨best, rfl, gS, s3, hr, hf⟩ S4 g4
    obtain ⟨n0, n1, hx⟩ := enum_mem (hr (n, x) List.mem_cons_self)
    have xo := ok.rob x (List.mem_of_getElem? hx)
    have hr' : ∀ q ∈ r, q ∈ enumI F.robots := fun q hq => hr q (List.mem_cons_of_mem _ hq)
    refine s_set (x := (distances F.floor F.closed cells).getD x.place.toNat none) 6 nd (er_ix (er_var 2) (eRob_place (er_var 5)) xo.p0 (dist_at ok.fl hc xo.p0 xo.p1)) fun S5 g5 => ?_
    cases e : (distances F.floor F.closed cells).getD x.place.toNat none with
    | none =>
      have et : nfTurn F (distances F.floor F.closed cells) best (n, x) = best := by
        unfold nfTurn
        show (match (distances F.floor F.closed cells).getD x.place.toNat none with | none => best | some d => _) = best
        rw [e]
      refine s_if (t := false) (tr_and3 (s := false) (t := false) (u := false) (tr_cmp (cv_notN (o := (none : Option Int)) (er_var 6))) (fun z => nomatch z) (fun z => nomatch z)) (fun t => nomatch t) (fun _ S6 g6 => s_end (s_next (.keep (.keep (.keep (.keep (.drop (.drop (.drop .nil))))))) ?_))
      exact ⟨best, rfl, ((gS.trans g4).trans g5).trans g6, s3.trans ((g4.trans g5).trans g6).g, hr', by rw [← hf, List.foldl_cons, et]⟩
    | some d =>
      have et : nfTurn F (distances F.floor F.closed cells) best (n, x) = if (F.isFree n && nfBetter d best) = true then some (d, n) else best := by
        unfold nfTurn
        show (match (distances F.floor F.closed cells).getD x.place.toNat none with | none => best | some d => _) = _
        rw [e]
      refine s_if (tr_and3 (s := true) (t := F.isFree n) (u := nfBetter d best) (tr_cmp (cv_notN (o := some d) (er_var 6))) (fun _ => tr_bool (ev_meth cal_is_free (fun _ _ h => h) (lFlt_is_free_no F) (er_var 0) (ar_cons (er_var 4) ar_nil) ⟨n0, n1⟩).er) (fun _ _ => ?_)) (fun t S6 g6 => ?_) (fun t S6 g6 => s_end (s_next (.keep (.keep (.keep (.keep (.drop (.drop (.drop .nil))))))) ?_))
      · cases best with
        | none => exact tr_or (s := true) (t := true) (tr_cmp (cv_isN (o := (none : Option (Int × Int))) (er_var 3))) (fun z => nomatch z)
        | some b => exact tr_or (s := false) (t := decide (d < b.1)) (tr_cmp (cv_isN (o := some b) (er_var 3))) (fun _ => tr_cmp (cv_lt (er_out (x := d) (er_var 6)) (er_fst (er_out (x := b) (er_var 3)))))
      · refine s_set (x := some (d, n)) 3 nd (er_some (er_pair (er_out (x := d) (er_var 6)) (er_var 4))) fun S7 g7 => s_end (s_next (.keep (.keep (.keep (.keep (.drop (.drop (.drop .nil))))))) ?_)
        exact ⟨some (d, n), rfl, (((gS.trans g4).trans g5).trans g6).trans g7, s3.trans (((g4.trans g5).trans g6).trans g7).g, hr', by rw [← hf, List.foldl_cons, et, if_pos (by simpa using t)]⟩
      · exact ⟨best, rfl, ((gS.trans g4).trans g5).trans g6, s3.trans ((g4.trans g5).trans g6).g, hr', by rw [← hf, List.foldl_cons, et, if_neg (by rw [Bool.not_eq_true]; simpa using t)]⟩
  · rintro Γ' S' ⟨best, rfl, gS, _, _, hf⟩
    have hf : best = (enumI F.robots).foldl (nfTurn F (distances F.floor F.closed cells)) none := hf
    refine s_if (tr_cmp (cv_isN (er_var 3))) (fun t S4 g4 => ?_) (fun t S4 g4 => s_end ?_)
    · have e : best = none := Option.isNone_iff_eq_none.mp t
      refine s_ret (x := (none : Option Int)) er_non fun S5 v g5 rv => hq S5 v _ ((gS.trans g4).trans g5) rv ?_
      unfold nearestFree
      rw [← hf, e]
      rfl
    · obtain ⟨b, rfl⟩ : ∃ b, best = some b := by
        cases best with
        | none => cases t
        | some b => exact ⟨b, rfl⟩
      refine s_ret (er_some (er_snd (er_out (x := b) (er_var 3)))) fun S5 v g5 rv => hq S5 v _ ((gS.trans g4).trans g5) rv ?_
      unfold nearestFree
      rw [← hf]
      rfl
theorem cal_next_order : Cal "next_order" 4 (Spf (fun a : Flt × Unit => a.1.Ok) fun a => nextOrder a.1) := by
  refine mkCal (d := d_next_order) i_next_order sc_next_order g_next_order (fun f cdv A outer s S a Q E hp hX hq => ?_) (hb := fun _ _ _ _ _ _ us hl => match us, hl with | [_], _ => rfl)
  obtain ⟨F, ⟨⟩⟩ := a
  have ok : F.Ok := hp
  replace hq : ∀ S1 v y, Grow S S1 → Rp.rep S1.G v y → y = nextOrder F → Q v S1.H := hq
  have nd := sc_next_order.nd
  have hb := firstOpen_bd F
  have p0 := ok.pt0
  have p1 := ok.pt1
  have k1 := ok.n1k
  have hl : lastOf F ≤ F.orders.length := by unfold lastOf; split <;> omega
  have hl0 : 0 ≤ lastOf F := by unfold lastOf; split <;> omega
  show SB _ _ _ [some ⟨F⟩, none, none, none, none] S
  refine s_set (x := F.firstOpen) 1 nd (ev_meth0 cal_first_open (fun _ _ h => h) (lFlt_first_open_no F) (er_var 0) trivial).er fun S1 g1 => ?_
  refine s_search2 (fun n => (nextPick F n).isSome) PassesOwn.never rfl (it_range2 (j := lastOf F) b_range (er_var 1) (er_min rfl b_min (er_add (er_var 1) (eFlt_patience (er_var 0))) (er_len b_len (eFlt_orders (er_var 0)))) (by omega)) (bg_name 2 nd) (fun n hn S2 g2 D' hD hnx hf => ?_) (fun hf S2 g2 => ?_)
  · have hm := mem_rangeI.mp hn
    have n0 : 0 ≤ n := by omega
    have n1 : n < F.orders.length := by omega
    have oo := ok.odrI n0 n1
    have hst := Flo.st_at oo.s0 oo.s1
    refine s_set (x := F.odr n) 3 nd (er_ix (eFlt_orders (er_var 0)) (er_var 2) n0 (Flt.odr_at n0 n1)) fun S3 g3 => ?_
    refine s_if (tr_and (p2 := default) (tr_not (tr_bool (eOdr_done (er_var 3)))) fun _ => tr_cmp (cv_isN (eOdr_robot (er_var 3)))) (fun t S4 g4 => ?_) (fun t S4 g4 => s_end (s_nil fun σ hσ => hnx ?_ S4 (g3.trans g4) σ (hσ.wk (.keep (.keep (.drop (.drop (.drop .nil))))))))
    · have ep : nextPick F n = nearestFree F (F.floor.stations.getD (F.odr n).start.toNat []) := by unfold nextPick; rw [if_pos t]
      refine s_set (x := nextPick F n) 4 nd (by rw [ep]; exact er_call cal_nearest_free (u := (F, F.floor.stations.getD (F.odr n).start.toNat [], ())) (ar_cons (er_var 0) (ar_cons (er_ix (eFlo_stations (eFlt_floor (er_var 0))) (eOdr_start (er_var 3)) oo.s0 hst) ar_nil)) ⟨ok, ok.fl.st _ (List.mem_of_getElem? hst), by have := ok.fl.stL _ (List.mem_of_getElem? hst); show (F.floor.stations.getD (F.odr n).start.toNat []).length ≤ 1000; omega⟩) fun S5 g5 => ?_
      refine s_if (tr_cmp (cv_notN (er_var 4))) (fun t S6 g6 => ?_) (fun t S6 g6 => s_end (s_end (s_nil fun σ hσ => hnx t S6 (((g3.trans g4).trans g5).trans g6) σ (hσ.wk (.keep (.keep (.drop (.drop (.drop .nil)))))))))
      obtain ⟨r, hr⟩ := Option.isSome_iff_exists.mp t
      refine s_ret (er_some (er_pair (er_var 2) (er_out (x := r) (by rw [← hr]; exact er_var 4)))) fun S7 v g7 rv => ?_
      rw [show (_ : VK) = _ from hD]
      refine hq S7 v _ ((((((g1.trans g2).trans g3).trans g4).trans g5).trans g6).trans g7) rv ?_
      unfold nextOrder
      rw [hf t]
      show _ = (nextPick F n).map _
      rw [hr]
      rfl
    · unfold nextPick
      rw [if_neg (by rw [show (!(F.odr n).done && (F.odr n).robot.isNone) = false from t]; decide)]
      rfl
  · refine s_ret (x := (none : Option (Int × Int))) er_non fun S3 v g3 rv => hq S3 v _ ((g1.trans g2).trans g3) rv ?_
    unfold nextOrder
    rw [hf]
    rfl
end
end Fl

set_option Elab.async false
set_option linter.all false
set_option maxRecDepth 100000
set_option maxHeartbeats 4000000
namespace Fl
open PySem PySem.Spec PyProof.Rows L2
section
variable [c : Ctx]
theorem MFc.aside {S S2 : HS} {p r o g : Addr} {qs : List Addr} {F : Flt} (h : MFc S p r o qs F) (u : Upd S g S2) (hg : g ∉ cells p r o qs) : MFc S2 p r o qs F := by
  have h1 : p ≠ g := fun z => hg (z ▸ List.mem_cons_self)
  have h2 : r ≠ g := fun z => hg (z ▸ List.mem_cons_of_mem _ List.mem_cons_self)
  have h3 : o ≠ g := fun z => hg (z ▸ List.mem_cons_of_mem _ (List.mem_cons_of_mem _ List.mem_cons_self))
  exact ⟨h.ip.upd u h1, h.ir.upd u h2, h.io.upd u h3, Paired.imp2 (fun q hq _ m => MI.upd m u fun z => hg (z ▸ List.mem_cons_of_mem _ (List.mem_cons_of_mem _ (List.mem_cons_of_mem _ hq)))) h.iq, h.nd, h.ro, h.pq⟩
/-- assign(fleet): a fleet that may change, changed -/
def SpAs : Sp := fun vs H Q _ => ∃ (S0 S : HS) (p : Addr) (F : Flt), S.H = H ∧ vs = [.ref p] ∧ Grow S0 S ∧ MF S0 S p F ∧ F.Ok ∧ ∀ (S1 : HS) (v : V), Grow S0 S1 → Same S.G S1.G → MF S0 S1 p (assignF F) → Q v S1.H
theorem cal_assign : Cal "assign" 5 SpAs := by
  obtain ⟨fd, FF, G⟩ := fn_sp (d := d_assign) (i := i_assign) (sp := SpAs) (k := 4) rfl sc_assign (fun vs H Q E ⟨S0, S, p, F, _, e, _⟩ => by rw [e]; rfl) (fun f cdv A outer s H vs Q E hX h => by
    obtain ⟨S0, S, p, F, rfl, rfl, gg, ⟨r, l, qs, m, fr⟩, ok, hq⟩ := h
    have nd := sc_assign.nd
    have hn4 := ok.n4
    refine (show SB (bx d_assign N_assign f cdv A outer s S.H E) _ _ [some ⟨(⟨p⟩ : Adr)⟩, none, none, none] S from ?_) _ (Slots.cons (t := ⟨(⟨p⟩ : Adr)⟩) rfl (Slots.nones 3))
    refine s_setN (α := Int × Int) 1 nd en_lst0 fun S1 g g1 g0 mg => ?_
    have hg : g ∉ cells p r l qs := fun z => m.there g z g0
    have g00 : S0.H g = none := gg.h.free g0
    have m1 := m.up g1
    have gg1 := gg.trans g1
    refine s_for (α := Int) PassesOwn.never rfl (it_range b_range (er_lenM b_len m1.ir (er_fldM (t := ⟨(⟨r⟩ : Adr)⟩) m1.ip lM_robots c_Fleet n_Fleet_robots (er_var 0))) (by omega)) (bg_name 2 nd) fun S2 g2 => ?_
    refine ⟨fun rr Γ' S' => ∃ (F' : Flt) (gs : List (Int × Int)), Γ' = [some ⟨(⟨p⟩ : Adr)⟩, some ⟨(⟨g⟩ : Adr)⟩, none, none] ∧ Grow S0 S' ∧ Same S2.G S'.G ∧ MFc S' p r l qs F' ∧ ML S' g gs ∧ F'.Ok ∧ gs.length + rr.length ≤ 4 ∧ assignGo rr.length F' = assignF F,
      ⟨F, [], rfl, gg1.trans g2, Same.refl _, m1.up g2, mg.up g2, ok, by rw [rangeI_len]; simp; omega, by rw [rangeI_len, Int.toNat_natCast]; rfl⟩, fun rr Γ' S' ⟨_, _, _, _, h, _⟩ => h, ?_, ?_⟩
    · rintro pre x rr Γ' S' hx ⟨F', gs, rfl, gS, s2, m, mg, ok, hl, hf⟩ S3 g3
      rw [List.length_cons] at hl hf
      have m3 := m.up g3
      refine s_set (x := nextOrder F') 3 nd (er_thaw (i := 0) ⟨r, l, qs, m3, fr⟩ fun T => er_call cal_next_order (u := (F', ())) (ar_cons (er_var 0) ar_nil) ok) fun S4 g4 => ?_
      have hf2 : (match nextOrder F' with | none => F' | some q => assignGo rr.length (giveF F' q)) = assignF F := hf
      refine s_if (tr_cmp (cv_isN (er_var 3))) (fun t S5 g5 => ?_) (fun t S5 g5 => s_end ?_)
      · have e := Option.isNone_iff_eq_none.mp t
        rw [e] at hf2
        have hf2 : F' = assignF F := hf2
        refine s_break ?_
        refine s_ret (er_var 1) fun S6 v g6 rv => hq S6 v (((gS.trans g3).trans g4).trans (g5.trans g6)) ((g1.trans g2).g.trans (s2.trans (((g3.trans g4).trans g5).trans g6).g)) ⟨r, l, qs, by rw [← hf2]; exact ((m3.up g4).up g5).up g6, fr⟩
      · obtain ⟨q, e⟩ : ∃ q, nextOrder F' = some q := by
          cases e : nextOrder F' with
          | none => rw [e] at t; cases t
          | some q => exact ⟨q, rfl⟩
        rw [e] at hf2
        have hf2 : assignGo rr.length (giveF F' q) = assignF F := hf2
        obtain ⟨a0, a1, _⟩ := nextOrder_ok ok e
        have m5 := (m3.up g4).up g5
        obtain ⟨u, hu1, hu2⟩ := m5.at_ (Flt.odr_at a0 a1)
        have hu : u ∈ cells p r l qs := List.mem_cons_of_mem _ (List.mem_cons_of_mem _ (List.mem_cons_of_mem _ (List.mem_of_getElem? hu1)))
        rw [e]
        refine s_methM cal_give (d := (q.2, ())) hu2 (lOdr_give_no (F'.odr q.1)) (er_ixM m5.io (er_fldM (t := ⟨(⟨l⟩ : Adr)⟩) m5.ip lM_orders c_Fleet n_Fleet_orders (er_var 0)) (er_fst (er_out (x := q) (er_var 3))) a0 (by rw [List.getElem?_map, hu1]; rfl)) (ar_cons (er_snd (er_out (x := q) (er_var 3))) ar_nil) fun S6 u6 m6 => ?_
        have mF := m5.odr hu1 u6 m6
        refine s_app (x := q) ((((mg.up g3).up g4).up g5).upd u6 (fun z => hg (z ▸ hu))) (er_var 1) (er_out (x := q) (er_var 3)) (by omega) fun S7 u7 m7 => s_next (.keep (.keep (.drop (.drop .nil)))) ?_
        exact ⟨giveF F' q, gs ++ [q], rfl, ((((gS.trans g3).trans g4).trans g5).upd (fr u hu) u6).upd g00 u7, ((s2.trans ((g3.trans g4).trans g5).g).trans u6.g).trans u7.g, mF.aside u7 hg, m7, (giveF_ok ok e).ok, by rw [List.length_append]; show gs.length + 1 + rr.length ≤ 4; omega, hf2⟩
    · rintro Γ' S' ⟨F', gs, rfl, gS, s2, m, mg, ok, hl, hf⟩
      have hf : F' = assignF F := hf
      refine s_ret (er_var 1) fun S6 v g6 rv => hq S6 v (gS.trans g6) ((g1.trans g2).g.trans (s2.trans g6.g)) ⟨r, l, qs, by rw [← hf]; exact m.up g6, fr⟩)
  exact ⟨_, fd, _, FF, g_assign, G.kp, FunD.bindsN G (fun _ _ _ _ _ _ us hl => match us, hl with | [_], _ => rfl)⟩
section
variable {X : Cx} {a : Expr} {Γ : Gm} {S S0 : HS} {pos pos' np : Pos} {D : Ends} {rest : List Stmt} {p : Addr} {F : Flt}
theorem st_assign {k0 : Nat} [hX : InC k0 X] (gg : Grow S0 S) (hM : MF S0 S p F) (ok : F.Ok) (ha : ER X a Γ S (⟨p⟩ : Adr)) (k : ∀ S1 : HS, Grow S0 S1 → Same S.G S1.G → MF S0 S1 p (assignF F) → SB X rest D Γ S1) (hj : 5 ≤ k0 := by decide) (hg : Gl X "assign" := by rfl)
    (he : starEach [a] X.env = (false, eval a X.env) :: starEach [] X.env := by rfl) (hpl : (backTo pos (starEach [] X.env)).any (·.1) = false := by rfl) (hs : swapsWith (.Call (.Name "assign" np) [a] [] pos) none pos'.line X.env = pure false := by rfl) :
    SB X (.Expr (.Call (.Name "assign" np) [a] [] pos) pos' :: rest) D Γ S := fun σ hσ => by
  obtain ⟨f, fd, ps, FF, hm, hk, hb⟩ := (cal_assign (c := c)).ex
  refine w_cons (w_ps (ps_expr (pe_call (fn_in hX FF) (hX.room.mono hj) hg (by rw [hX.mg]; exact hm) (by rw [hX.K]; exact hk) (by rw [hX.K]; exact hb) .nil pass0 (pa_cons pe_w pa_nil he) (by decide) he hpl) hs) (ha σ hσ S (.refl _) _ fun S2 v g2 r => ?_))
  cases (show v = V.ref p from r)
  exact ⟨S0, S2, p, F, rfl, rfl, gg.trans g2, hM.up g2, ok, fun S3 w g3 s3 m3 => k S3 g3 (g2.g.trans s3) m3 σ (hσ.mono (g2.g.trans s3))⟩
end
end
end Fl

set_option Elab.async false
set_option linter.all false
set_option maxRecDepth 100000
set_option maxHeartbeats 4000000
namespace Fl
open PySem PySem.Spec PyProof.Rows L2
/-! ### tuples of three, of which nothing is asked -/
structure T3 where
instance : Rp T3 := ⟨fun H v _ => ∃ a x y z, v = .ref a ∧ H a = some (.tup [x, y, z]), fun s ⟨a, x, y, z, e, h⟩ => ⟨a, x, y, z, e, s _ _ h⟩⟩
instance : NN T3 := ⟨fun ⟨_, _, _, _, e, _⟩ z => by rw [e] at z; cases z⟩
section
variable {α β γ : Type} [Rp α] [Rp β] [Rp γ] {X : Cx} {e a b d : Expr} {Γ : Gm} {S : HS} {pos p2 : Pos} {x : α} {y : β} {z : γ}
theorem er_tup3 {kk : Nat} (h1 : ER X a Γ S x) (h2 : ER X b Γ S y) (h3 : ER X d Γ S z) (s1 : starEach [a, b, d] X.env = (false, eval a X.env) :: starEach [b, d] X.env := by rfl) (s2 : starEach [b, d] X.env = (false, eval b X.env) :: starEach [d] X.env := by rfl) (s3 : starEach [d] X.env = [(false, eval d X.env)] := by rfl) :
    ER X (.Tuple [a, b, d] kk pos) Γ S (⟨⟩ : T3) := fun σ hσ S1 g Q k => w_pe (pe_tup (pa_cons pe_w (pa_cons pe_w (pa_cons pe_w pa_nil s3) s2) s1)) (h1 σ hσ S1 g _ fun S2 u g2 ru => h2 σ hσ S2 (g.trans g2) _ fun S3 v g3 rv => h3 σ hσ S3 ((g.trans g2).trans g3) _ fun S4 w g4 rw' =>
    ⟨(by show 3 ≤ sizeLine; decide), fun p hp => k (S4.new p _ hp) _ (((g2.trans g3).trans g4).trans (.new S4 p _ hp)) ⟨p, u, v, w, rfl, HS.new_at⟩⟩)
theorem er_t3at {n : Int} {j : Nat} {h} (ha : ER X a Γ S (⟨⟩ : T3)) (hn : n = (j : Int)) (hj : j < 3) : ER X (.Subscript a (.Constant (.int n) h p2) pos) Γ S (⟨⟩ : Som) := fun σ hσ S1 g Q k =>
  w_pe (pe_ix ix_tup pe_w pe_int (fun _ _ => rfl)) (ha σ hσ S1 g _ fun S2 u g2 ⟨p, x, y, z, e1, e2⟩ => by
    have : ∃ v, [x, y, z][j]? = some v := ⟨_, List.getElem?_eq_getElem (by simpa using hj)⟩
    obtain ⟨v, hv⟩ := this
    exact ⟨p, _, n, v, e1, rfl, SqT.of (S2.le _ _ e2), by rw [hn]; exact atI_nat hv, k S2 v g2 trivial⟩)
theorem er_tupS {δ : Type} [Args δ] {u : δ} {es : List Expr} {kk : Nat} (h : AR X es Γ S u) (hn : Args.num δ ≤ 100) : ER X (.Tuple es kk pos) Γ S (⟨⟩ : Som) := fun σ hσ S1 g Q k =>
  w_pe (pe_tup pa_w) (h σ hσ S1 g _ fun S2 vs g2 r => ⟨by rw [Args.len r]; exact Nat.le_trans hn (by decide), fun p hp => k (S2.new p _ hp) _ (g2.trans (.new S2 p _ hp)) trivial⟩)
end
section
variable [c : Ctx]
theorem cal_robot_on : Cal "robot_on" 1 (Spc (fun _ : Flt × Int × Unit => True) fun _ (_ : Option Int) => True) := by
  refine mkCal (d := d_robot_on) i_robot_on sc_robot_on g_robot_on (fun f cdv A outer s S a Q E hp hX hq => ?_) (hb := fun _ _ _ _ _ _ us hl => match us, hl with | [_, _], _ => rfl)
  obtain ⟨F, p, ⟨⟩⟩ := a
  replace hq : ∀ S1 v (y : Option Int), Grow S S1 → Rp.rep S1.G v y → True → Q v S1.H := hq
  have nd := sc_robot_on.nd
  show SB _ _ _ [some ⟨F⟩, some ⟨p⟩, none, none] S
  refine s_search (fun q : Int × Rob => decide (q.2.place = p)) PassesOwn.never rfl (it_enum b_enumerate (eFlt_robots (er_var 0))) (bg_pair rfl (bg_name 2 nd) (bg_name 3 nd)) (fun x => .keep (.keep (.drop (.drop .nil)))) (fun x hx S2 g2 => ?_) (fun x hx hf S2 g2 D' hD => ?_) (fun hf S2 g2 => ?_)
  · exact tr_cmp (cv_eqI (eRob_place (er_var 3)) (er_var 1))
  · exact s_ret (er_some (er_var 2)) fun S3 v g3 r => by rw [hD]; exact hq S3 v _ (g2.trans g3) r trivial
  · exact s_ret (x := (none : Option Int)) er_non fun S3 v g3 r => hq S3 v _ (g2.trans g3) r trivial
def preHind (a : Flt × Int × Int × Unit) : Prop := a.1.Ok ∧ 0 ≤ a.2.1 ∧ a.2.1 < a.1.robots.length ∧ (a.1.rob a.2.1).broken = false ∧ a.2.2.1 ∈ a.1.floor.around (a.1.rob a.2.1).place
theorem cal_hindrance : Cal "hindrance" 9 (Spc preHind fun _ (_ : Option T3) => True) := by
  refine mkCal (d := d_hindrance) i_hindrance sc_hindrance g_hindrance (fun f cdv A outer s S a Q E hp hX hq => ?_) (hb := fun _ _ _ _ _ _ us hl => match us, hl with | [_, _, _], _ => rfl)
  obtain ⟨F, r, p, ⟨⟩⟩ := a
  obtain ⟨ok, r0, r1, hbr, har⟩ : F.Ok ∧ 0 ≤ r ∧ r < F.robots.length ∧ (F.rob r).broken = false ∧ p ∈ F.floor.around (F.rob r).place := hp
  replace hq : ∀ S1 v (y : Option T3), Grow S S1 → Rp.rep S1.G v y → True → Q v S1.H := hq
  have nd := sc_hindrance.nd
  have ro := ok.robI r0 r1
  have pr := around_in ok.fl ro.p0 ro.p1 p har
  show SB _ _ _ [some ⟨F⟩, some ⟨r⟩, some ⟨p⟩, none, none, none, none, none, none] S
  refine s_set (x := (⟨stepF F r p⟩ : New S.H (Option Flt))) 3 nd (er_callN cal_step (u := (F, r, p, ())) (ar_cons (er_var 0) (ar_cons (er_var 1) (ar_cons (er_var 2) ar_nil))) ⟨ok, r0, r1⟩) fun S1 g1 => ?_
  refine s_if (t := (stepF F r p).isSome) (tr_cmp (cv_notN (ER.old (x := stepF F r p) (H0 := S.H) (er_var 3)))) (fun t S2 g2 => ?_) (fun t S2 g2 => s_end ?_)
  · obtain ⟨G, hG⟩ := Option.isSome_iff_exists.mp t
    refine s_if (tr_or (tr_cmp (cv_eqO (er_call cal_first_robot (u := (F, ())) (ar_cons (er_var 0) ar_nil) ok) (er_var 1))) fun _ => tr_bool (er_call cal_first_goes (u := (G, ())) (ar_cons (ER.old (er_outN (x := G) (by rw [← hG]; exact er_var 3))) ar_nil) (stepF_ok ok r0 r1 hG).1)) (fun _ S3 g3 => ?_) (fun _ S3 g3 => s_end ?_)
    · exact s_ret (x := (none : Option T3)) er_non fun S4 v g4 rv => hq S4 v _ (((g1.trans g2).trans g3).trans g4) rv trivial
    · exact s_ret (er_some (er_tup3 er_str er_unit er_unit)) fun S4 v g4 rv => hq S4 v _ (((g1.trans g2).trans g3).trans g4) rv trivial
  have hnone : stepF F r p = none := by
    cases e : stepF F r p with
    | none => rfl
    | some G => rw [e] at t; cases t
  have hp1 : p < F.floor.size := by
    by_cases hd : p = F.floor.depot
    · exfalso
      unfold stepF at hnone
      rw [if_neg (by rw [hbr]; simp; exact har), if_pos hd] at hnone
      cases hnone
    · have : ¬ p = F.floor.size := hd
      omega
  have g12 := g1.trans g2
  refine s_setV 4 nd (ev_call cal_robot_on (u := (F, p, ())) (ar_cons (er_var 0) (ar_cons (er_var 2) ar_nil)) trivial) fun S3 y g3 _ => ?_
  refine s_if (tr_cmp (cv_notN (er_var 4))) (fun t S4 g4 => ?_) (fun t S4 g4 => s_end ?_)
  · obtain ⟨o, rfl⟩ := Option.isSome_iff_exists.mp t
    exact s_ret (er_some (er_tup3 er_str (er_var 4) er_unit)) fun S5 v g5 rv => hq S5 v _ (((g12.trans g3).trans g4).trans g5) rv trivial
  have g14 := (g12.trans g3).trans g4
  have rl : F.running.length ≤ 1000 := by
    unfold Flt.running
    rw [List.length_map]
    have := List.length_filter_le (fun q : Int × Rob => F.off q.2 && !q.2.broken) (enumI F.robots)
    rw [enum_len] at this
    have := ok.n4
    omega
  have fl2 := List.length_filter_le (fun n : Int => !decide (n = r)) F.running
  refine s_set (x := ((F.running.filter fun n => !decide (n = r)).map fun n => (F.rob n).place) ++ [p]) 6 nd (er_cat (en_lcI (h := fun n : Int => (F.rob n).place) 5 (fun n : Int => !decide (n = r)) rfl nd (it_list (ev_meth0 cal_running (fun _ _ h => h) (lFlt_running_no F) (er_var 0) ok.few).er) (by show F.running.length ≤ _; omega) (blkOk_by (N := N_hindrance) (sc := defScope s_hindrance) (by decide +kernel)) (fun x _ S5 g5 X' hb => ?_) (fun x hx _ S5 g5 X' hb => ?_)).er (er_lst1 (er_var 2)) (by rw [List.length_map]; exact Nat.le_trans (show _ ≤ 1001 by rw [List.length_singleton]; omega) (by decide))) fun S5 g5 => ?_
  · obtain ⟨_, _, _, _, _, rfl⟩ := hb
    exact tr_cmp (cv_neI (er_var 5) (er_var 1))
  · obtain ⟨_, _, _, _, _, rfl⟩ := hb
    obtain ⟨a0, a1, _⟩ := run_mem (F := F) hx
    exact eRob_place (er_ix (eFlt_robots (er_var 0)) (er_var 5) a0 (Flt.rob_at a0 a1))
  refine s_asgV (ev_call cal_most_ways (u := (F.floor, F.closed, ((F.running.filter fun n => !decide (n = r)).map fun n => (F.rob n).place) ++ [p], F.floor.doors, ())) (ar_cons (eFlt_floor (er_var 0)) (ar_cons (ev_meth0 cal_closed (fun _ _ h => h) (lFlt_closed_no F) (er_var 0) ok.few).er (ar_cons (er_var 6) (ar_cons (eFlo_doors (eFlt_floor (er_var 0))) ar_nil)))) ⟨ok.fl, fun z hz => ?_⟩) (bg_pair rfl (bg_name 7 nd) (bg_name 8 nd)) fun S6 y2 g6 _ => ?_
  · rcases List.mem_append.mp hz with hz | hz
    · obtain ⟨n, hn, rfl⟩ := List.mem_map.mp hz
      obtain ⟨a0, a1, _, a3⟩ := run_mem (List.mem_filter.mp hn).1
      have := ok.robI a0 a1
      have h3 : ¬ (F.rob n).place = F.floor.size := a3
      have := this.p0
      have := (ok.robI a0 a1).p1
      show 0 ≤ (F.rob n).place ∧ (F.rob n).place < F.floor.size
      omega
    · rw [List.mem_singleton.mp hz]
      exact ⟨pr.1, hp1⟩
  exact s_ret (er_some (er_tup3 er_str er_unit (er_var 8))) fun S7 v g7 rv => hq S7 v _ (((g14.trans g5).trans g6).trans g7) rv trivial
theorem nearer_sub {F : Flt} {cells : List Int} {r p : Int} (h : p ∈ nearer F cells r) : p ∈ F.floor.around (F.rob r).place := by
  unfold nearer at h
  split at h
  · cases h
  · split at h
    · cases h
    · exact (List.mem_filter.mp h).1
theorem cal_hindrances : Cal "hindrances" 10 (Spc (fun a : Flt × Int × Int × Unit => preAct a ∧ (a.1.rob a.2.2.1).broken = false) fun _ (_ : List Som) => True) := by
  refine mkCal (d := d_hindrances) i_hindrances sc_hindrances g_hindrances (fun f cdv A outer s S a Q E hp hX hq => ?_) (hb := fun _ _ _ _ _ _ us hl => match us, hl with | [_, _, _], _ => rfl)
  obtain ⟨F, n, r, ⟨⟩⟩ := a
  obtain ⟨⟨ok, n0, n1, r0, r1⟩, hbr⟩ : (F.Ok ∧ 0 ≤ n ∧ n < F.orders.length ∧ 0 ≤ r ∧ r < F.robots.length) ∧ (F.rob r).broken = false := hp
  replace hq : ∀ S1 v (y : List Som), Grow S S1 → Rp.rep S1.G v y → True → Q v S1.H := hq
  have nd := sc_hindrances.nd
  have ha := aim_in ok n0 n1
  have ro := ok.robI r0 r1
  have hnl : (nearer F (F.aim n) r).length ≤ 121 := by
    have h1 := around_len ok.fl (F.rob r).place
    have h2 : (nearer F (F.aim n) r).length ≤ (F.floor.around (F.rob r).place).length := by
      unfold nearer
      split
      · exact Nat.zero_le _
      · split
        · exact Nat.zero_le _
        · exact List.length_filter_le _ _
    omega
  show SB _ _ _ [some ⟨F⟩, some ⟨n⟩, some ⟨r⟩, none, none, none] S
  refine s_setN (α := Som) 3 nd en_lst0 fun S1 q g1 q0 m1 => ?_
  refine s_for PassesOwn.never rfl (it_list (er_call cal_nearer (u := (F, F.aim n, r, ())) (ar_cons (er_var 0) (ar_cons (ev_meth cal_aim (fun _ _ h => h) (lFlt_aim_no F) (er_var 0) (ar_cons (er_var 1) ar_nil) ⟨ok, n0, n1⟩).er (ar_cons (er_var 2) ar_nil))) ⟨ok, ha.1, ha.2, r0, r1⟩)) (bg_name 4 nd) fun S2 g2 => ?_
  refine ⟨fun rr Γ' S' => ∃ fs : List Som, Γ' = [some ⟨F⟩, some ⟨n⟩, some ⟨r⟩, some ⟨(⟨q⟩ : Adr)⟩, none, none] ∧ Grow S S' ∧ Same S2.G S'.G ∧ ML S' q fs ∧ fs.length + rr.length ≤ 121 ∧ ∀ p ∈ rr, p ∈ nearer F (F.aim n) r, ⟨[], rfl, g1.trans g2, Same.refl _, m1.up g2, by show 0 + (nearer F (F.aim n) r).length ≤ 121; omega, fun p hp => hp⟩, fun rr Γ' S' ⟨_, _, _, h, _⟩ => h, ?_, ?_⟩
  · rintro pre p rr Γ' S' hx ⟨fs, rfl, gS, s2, m, hl, hr⟩ S3 g3
    rw [List.length_cons] at hl
    have hr' : ∀ p ∈ rr, p ∈ nearer F (F.aim n) r := fun p hp => hr p (List.mem_cons_of_mem _ hp)
    refine s_setV 5 nd (ev_call cal_hindrance (u := (F, r, p, ())) (ar_cons (er_var 0) (ar_cons (er_var 2) (ar_cons (er_var 4) ar_nil))) ⟨ok, r0, r1, hbr, nearer_sub (hr p List.mem_cons_self)⟩) fun S4 y g4 _ => ?_
    refine s_if (tr_cmp (cv_notN (er_var 5))) (fun t S5 g5 => ?_) (fun t S5 g5 => s_end (s_next (.keep (.keep (.keep (.keep (.drop (.drop .nil)))))) ?_))
    · obtain ⟨⟨⟩, rfl⟩ := Option.isSome_iff_exists.mp t
      refine s_app (((m.up g3).up g4).up g5) (er_var 3) (er_tupS (ar_cons (er_var 4) (ar_cons (er_t3at (j := 0) (er_out (er_var 5)) rfl (by decide)) (ar_cons (er_t3at (j := 1) (er_out (er_var 5)) rfl (by decide)) (ar_cons (er_t3at (j := 2) (er_out (er_var 5)) rfl (by decide)) ar_nil)))) (by decide)) (by omega) fun S6 u6 m6 => s_end (s_next (.keep (.keep (.keep (.keep (.drop (.drop .nil)))))) ?_)
      exact ⟨fs ++ [⟨⟩], rfl, (((gS.trans g3).trans g4).trans g5).upd q0 u6, (s2.trans ((g3.trans g4).trans g5).g).trans u6.g, m6, by rw [List.length_append]; show fs.length + 1 + rr.length ≤ 121; omega, hr'⟩
    · exact ⟨fs, rfl, ((gS.trans g3).trans g4).trans g5, s2.trans ((g3.trans g4).trans g5).g, ((m.up g3).up g4).up g5, by omega, hr'⟩
  · rintro Γ' S' ⟨fs, rfl, gS, _, m, _, _⟩
    refine SB.fixM 3 gS q0 m fun S5 e5 g5 _ _ => ?_
    exact s_ret (er_var 3) fun S6 v g6 r => hq S6 v _ (g5.trans g6) r trivial
def whyWords : List Str := ["broken", "idle", "far", "home", "behind", "hindered"]
theorem ev_hind {X : Cx} {b : Expr} {Γ : Gm} {S : HS} {pos p2 : Pos} {kk : Nat} {s : Str} {h} {P : Option (Str × List Som) → Prop} (hb : EV X b Γ S (fun _ : List Som => True)) (hP : ∀ z, P (some (s, z))) (hs : starEach [.Constant (.str s) h p2, b] X.env = (false, eval (.Constant (.str s) h p2) X.env) :: starEach [b] X.env := by rfl) (hs2 : starEach [b] X.env = [(false, eval b X.env)] := by rfl) :
    EV X (.Tuple [.Constant (.str s) h p2, b] kk pos) Γ S P := fun σ hσ S1 g Q k =>
  w_pe (pe_tup (pa_cons pe_str (pa_cons pe_w pa_nil hs2) hs)) (hb σ hσ S1 g _ fun S3 v y g3 rv _ => ⟨(by show 2 ≤ sizeLine; decide), fun p hp => k (S3.new p _ hp) _ (some (s, y)) (g3.trans (.new S3 p _ hp)) ⟨(fun z => by cases z), rep_pair_new hp (show Rp.rep S3.G (V.str s) s from rfl) rv⟩ (hP _)⟩)
theorem cal_waits : Cal "waits" 11 (Spc (fun a : Flt × Int × Unit => a.1.Ok ∧ 0 ≤ a.2.1 ∧ a.2.1 < a.1.robots.length) fun a (y : Option (Str × List Som)) => y.isNone = (actOf a.1 a.2.1).isSome ∧ ∀ z, y = some z → z.1 ∈ whyWords) := by
  refine mkCal (d := d_waits) i_waits sc_waits g_waits (fun f cdv A outer s S a Q E hp hX hq => ?_) (hb := fun _ _ _ _ _ _ us hl => match us, hl with | [_, _], _ => rfl)
  obtain ⟨F, r, ⟨⟩⟩ := a
  obtain ⟨ok, r0, r1⟩ : F.Ok ∧ 0 ≤ r ∧ r < F.robots.length := hp
  replace hq : ∀ S1 v (y : Option (Str × List Som)), Grow S S1 → Rp.rep S1.G v y → (y.isNone = (actOf F r).isSome ∧ ∀ z, y = some z → z.1 ∈ whyWords) → Q v S1.H := hq
  have nd := sc_waits.nd
  have hrb := Flt.rob_at r0 r1
  have ro := ok.robI r0 r1
  show SB _ _ _ [some ⟨F⟩, some ⟨r⟩, none, none] S
  refine s_if (tr_cmp (cv_notN (ER.old (er_callN cal_act_of (u := (F, r, ())) (ar_cons (er_var 0) (ar_cons (er_var 1) ar_nil)) ⟨ok, r0, r1⟩)))) (fun t S1 g1 => ?_) (fun t S1 g1 => s_end ?_)
  · exact s_ret (x := (none : Option (Str × List Som))) er_non fun S2 v g2 rv => hq S2 v _ (g1.trans g2) rv ⟨t.symm, fun z e => by cases e⟩
  have fin : ∀ (z : Str × List Som), z.1 ∈ whyWords → (some z).isNone = (actOf F r).isSome ∧ ∀ u, some z = some u → u.1 ∈ whyWords := fun z h => ⟨t.symm, fun u e => by cases e; exact h⟩
  refine s_if (tr_bool (eRob_broken (er_ix (eFlt_robots (er_var 0)) (er_var 1) r0 hrb))) (fun tb S2 g2 => ?_) (fun tb S2 g2 => s_end ?_)
  · exact s_ret (er_some (er_pair er_str (er_lst0 (α := Som)))) fun S3 v g3 rv => hq S3 v _ ((g1.trans g2).trans g3) rv (fin _ (by decide +kernel))
  refine s_set (x := (F.rob r).place) 2 nd (eRob_place (er_ix (eFlt_robots (er_var 0)) (er_var 1) r0 hrb)) fun S3 g3 => ?_
  refine s_set (x := F.orderOf r) 3 nd (ev_meth cal_order_of (fun _ _ h => h) (lFlt_order_of_no F) (er_var 0) (ar_cons (er_var 1) ar_nil) trivial).er fun S4 g4 => ?_
  have g14 := ((g1.trans g2).trans g3).trans g4
  refine s_if (tr_cmp (cv_isN (er_var 3))) (fun t4 S5 g5 => ?_) (fun t4 S5 g5 => s_end ?_)
  · refine s_if (tr_cmp (cv_eqI (er_var 2) (eFlo_depot (eFlt_floor (er_var 0))))) (fun _ S6 g6 => ?_) (fun _ S6 g6 => s_end ?_)
    · exact s_ret (er_some (er_pair er_str (er_lst0 (α := Som)))) fun S7 v g7 rv => hq S7 v _ (((g14.trans g5).trans g6).trans g7) rv (fin _ (by decide +kernel))
    · exact s_ret (er_some (er_pair er_str (er_lst0 (α := Som)))) fun S7 v g7 rv => hq S7 v _ (((g14.trans g5).trans g6).trans g7) rv (fin _ (by decide +kernel))
  obtain ⟨n, e⟩ : ∃ n, F.orderOf r = some n := by
    cases e : F.orderOf r with
    | none => rw [e] at t4; cases t4
    | some n => exact ⟨n, rfl⟩
  obtain ⟨n0, n1, _⟩ := orderOf_some e
  have ha := aim_in ok n0 n1
  rw [e]
  refine s_if (tr_cmp (cv_isN (er_call cal_distance (u := (F.floor, F.closed, F.aim n, (F.rob r).place, ())) (ar_cons (eFlt_floor (er_var 0)) (ar_cons (ev_meth0 cal_closed (fun _ _ h => h) (lFlt_closed_no F) (er_var 0) ok.few).er (ar_cons (ev_meth cal_aim (fun _ _ h => h) (lFlt_aim_no F) (er_var 0) (ar_cons (er_out (x := n) (er_var 3)) ar_nil) ⟨ok, n0, n1⟩).er (ar_cons (er_var 2) ar_nil)))) ⟨⟨ok.fl, ha.1, ha.2⟩, ro.p0, ro.p1⟩))) (fun _ S6 g6 => ?_) (fun _ S6 g6 => s_end ?_)
  · exact s_ret (er_some (er_pair er_str (er_lst0 (α := Som)))) fun S7 v g7 rv => hq S7 v _ (((g14.trans g5).trans g6).trans g7) rv (fin _ (by decide +kernel))
  refine s_if (tr_and (p2 := default) (tr_cmp (cv_neO (er_call cal_first_robot (u := (F, ())) (ar_cons (er_var 0) ar_nil) ok) (er_var 1))) fun _ => tr_not (tr_bool (er_call cal_first_goes (u := (F, ())) (ar_cons (er_var 0) ar_nil) ok))) (fun _ S7 g7 => ?_) (fun _ S7 g7 => s_end ?_)
  · exact s_ret (er_some (er_pair er_str (er_lst0 (α := Som)))) fun S8 v g8 rv => hq S8 v _ ((((g14.trans g5).trans g6).trans g7).trans g8) rv (fin _ (by decide +kernel))
  refine s_retV (P := fun y : Option (Str × List Som) => y.isNone = (actOf F r).isSome ∧ ∀ z, y = some z → z.1 ∈ whyWords) (ev_hind (ev_call cal_hindrances (u := (F, n, r, ())) (ar_cons (er_var 0) (ar_cons (er_out (x := n) (er_var 3)) (ar_cons (er_var 1) ar_nil))) ⟨⟨ok, n0, n1, r0, r1⟩, tb⟩) fun z => fin _ (by show ("hindered" : Str) ∈ whyWords; decide +kernel)) fun S8 v y g8 rv hy => hq S8 v y ((((g14.trans g5).trans g6).trans g7).trans g8) rv hy
end
end Fl

set_option Elab.async false
set_option linter.all false
set_option maxRecDepth 100000
set_option maxHeartbeats 4000000
namespace Fl
open PySem PySem.Spec PyProof.Rows L2
section
variable {X : Cx} {a b d : Expr} {Γ : Gm} {S : HS} {pos : Pos} {i j k : Int}
/-- i <= j < k -/
theorem tr_chain (ha : ER X a Γ S i) (hb : ER X b Γ S j) (hc : ER X d Γ S k) (hm : lastMarks [.LtE, .Lt] [b, d] = false := by with_unfolding_all rfl) : TR X (.Compare a [.LtE, .Lt] [b, d] pos) Γ S (decide (i ≤ j) && decide (j < k)) := fun σ hσ S1 g Q kk =>
  w_pt (pt_chain op_le op_lt pe_w pe_w pe_w hm) (ha σ hσ S1 g _ fun S2 u g2 ru => hb σ hσ S2 (g.trans g2) _ fun S3 v g3 rv => ⟨i, j, ru, rv, decide (i ≤ j), rfl, by
    cases e : decide (i ≤ j) with
    | true =>
      rw [e, Bool.true_and] at kk
      exact iteT (hc σ hσ S3 ((g.trans g2).trans g3) _ fun S4 w g4 rw' => ⟨j, k, rv, rw', _, rfl, kk S4 ((g2.trans g3).trans g4)⟩)
    | false =>
      rw [e, Bool.false_and] at kk
      exact iteF ⟨false, rfl, kk S3 (g2.trans g3)⟩⟩)
theorem tr_chain2 (ha : ER X a Γ S i) (hb : ER X b Γ S j) (hc : ER X d Γ S k) (hm : lastMarks [.LtE, .LtE] [b, d] = false := by with_unfolding_all rfl) : TR X (.Compare a [.LtE, .LtE] [b, d] pos) Γ S (decide (i ≤ j) && decide (j ≤ k)) := fun σ hσ S1 g Q kk =>
  w_pt (pt_chain op_le op_le pe_w pe_w pe_w hm) (ha σ hσ S1 g _ fun S2 u g2 ru => hb σ hσ S2 (g.trans g2) _ fun S3 v g3 rv => ⟨i, j, ru, rv, decide (i ≤ j), rfl, by
    cases e : decide (i ≤ j) with
    | true =>
      rw [e, Bool.true_and] at kk
      exact iteT (hc σ hσ S3 ((g.trans g2).trans g3) _ fun S4 w g4 rw' => ⟨j, k, rv, rw', _, rfl, kk S4 ((g2.trans g3).trans g4)⟩)
    | false =>
      rw [e, Bool.false_and] at kk
      exact iteF ⟨false, rfl, kk S3 (g2.trans g3)⟩⟩)
end
/-! ### events -/
inductive Ev where
  | ord (a b : Int)
  | one (k : Str) (r : Int)
  deriving DecidableEq
def Ev.kind : Ev → Str
  | .ord _ _ => "order"
  | .one k _ => k
def Ev.fst : Ev → Int
  | .ord a _ => a
  | .one _ r => r
instance : Rp Ev := ⟨fun H v e => match e with
  | .ord a b => ∃ p, v = .ref p ∧ H p = some (.tup [.str "order", .int a, .int b])
  | .one k r => ∃ p, v = .ref p ∧ H p = some (.tup [.str k, .int r]), fun {H H' v e} s h => by
    cases e with
    | ord a b => exact ⟨h.choose, h.choose_spec.1, s _ _ h.choose_spec.2⟩
    | one k r => exact ⟨h.choose, h.choose_spec.1, s _ _ h.choose_spec.2⟩⟩
instance : NN Ev := ⟨fun {H v e} h z => by
  cases e with
  | ord a b => obtain ⟨p, e, _⟩ := h; rw [e] at z; cases z
  | one k r => obtain ⟨p, e, _⟩ := h; rw [e] at z; cases z⟩
section
variable {X : Cx} {a : Expr} {Γ : Gm} {S : HS} {pos p2 : Pos} {e : Ev} {n}
theorem er_ev0 (ha : ER X a Γ S e) : ER X (.Subscript a (.Constant (.int 0) n p2) pos) Γ S e.kind := fun σ hσ S1 g Q k =>
  w_pe (pe_ix ix_tup pe_w pe_int (fun _ _ => rfl)) (ha σ hσ S1 g _ fun S2 u g2 r => by
    cases e with
    | ord x y => obtain ⟨p, e1, e2⟩ := r; exact ⟨p, _, 0, .str "order", e1, rfl, SqT.of (S2.le _ _ e2), rfl, k S2 _ g2 rfl⟩
    | one w x => obtain ⟨p, e1, e2⟩ := r; exact ⟨p, _, 0, .str w, e1, rfl, SqT.of (S2.le _ _ e2), rfl, k S2 _ g2 rfl⟩)
theorem er_ev1 (ha : ER X a Γ S e) : ER X (.Subscript a (.Constant (.int 1) n p2) pos) Γ S e.fst := fun σ hσ S1 g Q k =>
  w_pe (pe_ix ix_tup pe_w pe_int (fun _ _ => rfl)) (ha σ hσ S1 g _ fun S2 u g2 r => by
    cases e with
    | ord x y => obtain ⟨p, e1, e2⟩ := r; exact ⟨p, _, 1, .int x, e1, rfl, SqT.of (S2.le _ _ e2), rfl, k S2 _ g2 rfl⟩
    | one w x => obtain ⟨p, e1, e2⟩ := r; exact ⟨p, _, 1, .int x, e1, rfl, SqT.of (S2.le _ _ e2), rfl, k S2 _ g2 rfl⟩)
theorem er_ev2 {x y : Int} (ha : ER X a Γ S (Ev.ord x y)) : ER X (.Subscript a (.Constant (.int 2) n p2) pos) Γ S y := fun σ hσ S1 g Q k =>
  w_pe (pe_ix ix_tup pe_w pe_int (fun _ _ => rfl)) (ha σ hσ S1 g _ fun S2 u g2 r => by
    obtain ⟨p, e1, e2⟩ := r
    exact ⟨p, _, 2, .int y, e1, rfl, SqT.of (S2.le _ _ e2), rfl, k S2 _ g2 rfl⟩)
end
def okOrder (F : Flt) (a b : Int) : Bool := (decide (0 ≤ a) && decide (a < F.floor.stations.length)) && ((decide (0 ≤ b) && decide (b < F.floor.stations.length)) && !decide (a = b))
def RP (b : Bool) (y : Option Str) : Prop := y.isNone = b ∧ ∀ z, y = some z → z.length ≤ 1000
theorem RP.lit {b : Bool} {s : Str} (h : (some s).isNone = b) (l : s.length ≤ 1000) : RP b (some s) := ⟨h, fun z e => by cases e; exact l⟩
theorem RP.non {b : Bool} (h : (none : Option Str).isNone = b) : RP b none := ⟨h, fun z e => by cases e⟩
section
variable [c : Ctx]
theorem cal_why_no_order : Cal "why_no_order" 1 (Spc (fun _ : Flt × Int × Int × Unit => True) fun a (y : Option Str) => RP (okOrder a.1 a.2.1 a.2.2.1) y) := by
  refine mkCal (d := d_why_no_order) i_why_no_order sc_why_no_order g_why_no_order (fun f cdv A outer s S a Q E hp hX hq => ?_) (hb := fun _ _ _ _ _ _ us hl => match us, hl with | [_, _, _], _ => rfl)
  obtain ⟨F, x, y, ⟨⟩⟩ := a
  replace hq : ∀ S1 v (z : Option Str), Grow S S1 → Rp.rep S1.G v z → RP (okOrder F x y) z → Q v S1.H := hq
  have nd := sc_why_no_order.nd
  show SB _ _ _ [some ⟨F⟩, some ⟨x⟩, some ⟨y⟩, none] S
  refine s_set (x := (F.floor.stations.length : Int)) 3 nd (er_len b_len (eFlo_stations (eFlt_floor (er_var 0)))) fun S1 g1 => ?_
  refine s_if (tr_or (tr_not (tr_chain er_int (er_var 1) (er_var 3))) fun _ => tr_not (tr_chain er_int (er_var 2) (er_var 3))) (fun t S2 g2 => ?_) (fun t S2 g2 => s_end ?_)
  · refine s_ret (er_some er_str) fun S3 v g3 rv => hq S3 v _ ((g1.trans g2).trans g3) rv (RP.lit ?_ (by decide))
    unfold okOrder
    cases h1 : (decide (0 ≤ x) && decide (x < (F.floor.stations.length : Int))) with
    | false => rfl
    | true =>
      rw [h1] at t
      cases h2 : (decide (0 ≤ y) && decide (y < (F.floor.stations.length : Int))) with
      | false => rfl
      | true => rw [h2] at t; cases t
  obtain ⟨t1, t2⟩ := Bool.or_eq_false_iff.mp t
  have t1 : (decide (0 ≤ x) && decide (x < (F.floor.stations.length : Int))) = true := by simpa using t1
  have t2 : (decide (0 ≤ y) && decide (y < (F.floor.stations.length : Int))) = true := by simpa using t2
  refine s_if (tr_cmp (cv_eqI (er_var 1) (er_var 2))) (fun t S3 g3 => ?_) (fun t S3 g3 => s_end ?_)
  · refine s_ret (er_some er_str) fun S4 v g4 rv => hq S4 v _ (((g1.trans g2).trans g3).trans g4) rv (RP.lit ?_ (by decide))
    unfold okOrder
    rw [t1, t2, t]
    rfl
  · refine s_ret (x := (none : Option Str)) er_non fun S4 v g4 rv => hq S4 v _ (((g1.trans g2).trans g3).trans g4) rv (RP.non ?_)
    unfold okOrder
    rw [t1, t2, t]
    rfl
end
/-! ### a breakdown -/
def relTurn (r : Int) (o : Odr) : Odr := if o.robot = some r then { o with robot := none, loaded := false } else o
def brokenDown (F : Flt) (r : Int) : Flt := { putRob F r ⟨(F.rob r).place, true, []⟩ with orders := F.orders.map (relTurn r) }
theorem brokenDown_ok {F : Flt} (ok : F.Ok) {r : Int} (r0 : 0 ≤ r) (r1 : r < F.robots.length) : Kept F (brokenDown F r) := by
  have ro := ok.robI r0 r1
  have P := put_ok ok r0 r1 (x := ⟨(F.rob r).place, true, []⟩) ⟨ro.p0, ro.p1, (fun x hx => by cases hx), fun _ => rfl, fun z => by cases z⟩ List.nodup_nil (fun z hz => by cases hz)
  refine ⟨⟨P.fl, P.n4, P.rob, P.nd, by show (F.orders.map (relTurn r)).length ≤ 1000; rw [List.length_map]; exact ok.n1k, fun o ho => ?_, P.pt0, P.pt1⟩, ⟨rfl, rfl, by show (F.robots.set _ _).length = _; rw [List.length_set]⟩, by show (F.orders.map (relTurn r)).length = _; rw [List.length_map]⟩
  obtain ⟨o', ho', rfl⟩ := List.mem_map.mp ho
  have := ok.odr o' ho'
  have hN : (brokenDown F r).robots.length = F.robots.length := by show (F.robots.set _ _).length = _; rw [List.length_set]
  unfold relTurn
  split
  · exact ⟨this.s0, this.s1, this.g0, this.g1, fun r hr => by cases hr⟩
  · exact ⟨this.s0, this.s1, this.g0, this.g1, by rw [hN]; exact this.rb⟩
end Fl

set_option Elab.async false
set_option linter.all false
set_option maxRecDepth 100000
set_option maxHeartbeats 4000000
namespace Fl
open PySem PySem.Spec PyProof.Rows L2
section
variable {α : Type} [Rp α] {X : Cx} {tg iter : Expr} {Γ : Gm} {S : HS} {pos : Pos} {D : Ends} {rest body : List Stmt}
/-- a loop over a list that may change, but does not -/
theorem s_forM {xs : List α} {l : Addr} {f : Gm → α → Gm} (hp : PassesOwn (model X.prog X.w) X.A X.env X.xe) (hc : X.calm = true) (he : ER X iter Γ S (⟨l⟩ : Adr)) (hm : ML S l xs) (hg : BG X tg f)
    (k : ∀ S1, Grow S S1 → ∃ P : List α → Gm → HS → Prop, P xs Γ S1 ∧ (∀ r Γ' S', P r Γ' S' → ML S' l xs) ∧
      (∀ (pre : List α) x r Γ' S', xs = pre ++ x :: r → P (x :: r) Γ' S' → SB X body { D with nx := NX (P r), ct := NX (P r), bk := fun σ' H' => wB X rest D σ' H' } (f Γ' x) S') ∧
      (∀ Γ' S', P [] Γ' S' → SB X rest D Γ' S')) (hs : ∀ x, foldedSetIterable iter X.env x = pure x := by intro _; rfl) : SB X (.For tg iter body [] pos :: rest) D Γ S := fun σ hσ => by
  obtain ⟨t, ht, kt⟩ := hg
  refine w_cons (w_ps (ps_for hp hc (pi_list pe_w) ht pss_w hs) (he σ hσ S (.refl _) _ fun S1 v g1 rv => ?_))
  obtain ⟨_, vs1, e1, r1⟩ := hm.up g1
  refine ⟨l, rv, ⟨vs1, SqL.of e1⟩, ?_⟩
  obtain ⟨P, h0, hst, turn, done⟩ := k S1 g1
  refine ⟨fun i m σ' H' => m = xs.length - i ∧ i ≤ xs.length ∧ NX (P (xs.drop i)) σ' H', ⟨xs.length, by rw [Nat.sub_zero], Nat.zero_le _, Γ, S1, rfl, hσ.mono g1.g, h0⟩, ?_⟩
  rintro i m σ' H' ⟨rfl, hi, Γ', S', rfl, hσ', p⟩
  obtain ⟨_, vs, e2, r2⟩ := hst _ _ _ p
  by_cases hlt : i < xs.length
  · obtain ⟨v, hv, _⟩ := r2.get (List.getElem?_eq_getElem hlt)
    refine .inr ⟨⟨vs, v, SqL.of e2, hv⟩, NX (P (xs.drop (i + 1))), fun σ2 H2 q => ⟨xs.length - (i + 1), by omega, rfl, hlt, q⟩, fun v H2 y => ?_⟩
    obtain ⟨eH, q⟩ := y
    subst eH
    obtain ⟨x, hx, rx⟩ := r2.got (q vs (SqL.of e2))
    have ed : xs.drop i = x :: xs.drop (i + 1) := by
      rw [List.drop_eq_getElem_cons hlt]
      congr 1
      exact Option.some.inj ((List.getElem?_eq_getElem hlt).symm.trans hx)
    rw [ed] at p
    refine kt σ' Γ' S' v x hσ' rx _ fun σ3 h3 => ?_
    exact turn (xs.take i) x (xs.drop (i + 1)) Γ' S' (by rw [← ed, List.take_append_drop]) p σ3 h3
  · have e : i = xs.length := by omega
    subst e
    rw [List.drop_length] at p
    exact .inl ⟨⟨vs, SqL.of e2, by rw [r2.len]; exact Nat.le_refl _⟩, done Γ' S' p σ' hσ'⟩
end
theorem set_mid {α : Type} {f : α → α} {os : List α} {i : Nat} {o : α} (h : os[i]? = some o) : ((os.take i).map f ++ os.drop i).set i (f o) = (os.take (i + 1)).map f ++ os.drop (i + 1) := by
  have hi := (List.getElem?_eq_some_iff.mp h).1
  have hl : ((os.take i).map f).length = i := by rw [List.length_map, List.length_take]; omega
  have ed : os.drop i = o :: os.drop (i + 1) := by
    rw [List.drop_eq_getElem_cons hi]
    congr 1
    exact Option.some.inj ((List.getElem?_eq_getElem hi).symm.trans h)
  rw [List.set_append_right _ _ (by omega), hl, Nat.sub_self, ed, List.set_cons_zero, List.take_add_one, h, List.map_append, List.append_assoc]
  rfl
section
variable [c : Ctx]
theorem cal_broken_down : Cal "broken_down" 6 (SpF (fun a : Flt × Int × Unit => a.1.Ok ∧ 0 ≤ a.2.1 ∧ a.2.1 < a.1.robots.length) fun a => brokenDown a.1 a.2.1) := by
  refine mkCalN (d := d_broken_down) i_broken_down sc_broken_down g_broken_down (fun f cdv A outer s S a Q E hp hX hq => ?_) (hb := fun _ _ _ _ _ _ us hl => match us, hl with | [_, _], _ => rfl)
  obtain ⟨F, r, ⟨⟩⟩ := a
  obtain ⟨ok, r0, r1⟩ : F.Ok ∧ 0 ≤ r ∧ r < F.robots.length := hp
  replace hq : ∀ (S1 : HS) (v : V) (y : Flt), Grow S S1 → Rp.rep S1.G v (⟨y⟩ : New S.H Flt) → y = brokenDown F r → Q v S1.H := hq
  have nd := sc_broken_down.nd
  show SB _ _ _ [some ⟨F⟩, some ⟨r⟩, none, none] S
  refine s_twin 2 nd (er_var 0) ok.few fun S1 p g1 hM => ?_
  refine s_setRob (x := ⟨(F.rob r).place, true, []⟩) g1 hM (NI.er (ni_Robot2 (eRob_place (er_ix (eFlt_robots (er_var 0)) (er_var 1) r0 (Flt.rob_at r0 r1))) er_bl) fun H v h => h) (er_var 2) (er_var 1) r0 r1 fun S2 g2 s2 hM2 => ?_
  obtain ⟨rr, l, qs, m, fr⟩ := hM2
  have hlen : qs.length = F.orders.length := Paired.length m.iq
  refine s_forM PassesOwn.never rfl (er_fldM (t := ⟨(⟨l⟩ : Adr)⟩) m.ip lM_orders c_Fleet n_Fleet_orders (er_var 2)) m.io (bg_name 3 nd) fun S3 g3 => ?_
  refine ⟨fun ys Γ' S' => ∃ i : Nat, Γ' = [some ⟨F⟩, some ⟨r⟩, some ⟨(⟨p⟩ : Adr)⟩, none] ∧ Grow S S' ∧ i ≤ qs.length ∧ ys = (qs.map Adr.mk).drop i ∧ MFc S' p rr l qs { putRob F r ⟨(F.rob r).place, true, []⟩ with orders := (F.orders.take i).map (relTurn r) ++ F.orders.drop i },
    ⟨0, rfl, g2.trans g3, Nat.zero_le _, rfl, m.up g3⟩, fun ys Γ' S' ⟨_, _, _, _, _, h⟩ => h.io, ?_, ?_⟩
  · rintro pre ⟨q⟩ ys Γ' S' hx ⟨i, rfl, gS, hi, hys, m⟩
    have hil : i < (qs.map Adr.mk).length := by
      have := congrArg List.length hys
      rw [List.length_cons, List.length_drop] at this
      omega
    have hil2 : i < qs.length := by rw [List.length_map] at hil; exact hil
    rw [List.drop_eq_getElem_cons hil] at hys
    injection hys with hy1 hy2
    have hq1 : qs[i]? = some q := by
      rw [List.getElem_map] at hy1
      rw [List.getElem?_eq_getElem hil2]
      exact congrArg some (Adr.mk.inj hy1).symm
    obtain ⟨o, ho⟩ : ∃ o, F.orders[i]? = some o := ⟨_, List.getElem?_eq_getElem (by omega)⟩
    have ho2 : ((F.orders.take i).map (relTurn r) ++ F.orders.drop i)[i]? = some o := by
      have hl : ((F.orders.take i).map (relTurn r)).length = i := by rw [List.length_map, List.length_take]; omega
      rw [List.getElem?_append_right (by omega), hl, Nat.sub_self, List.getElem?_drop]
      exact ho
    obtain ⟨q', hq', mi⟩ := m.at_ ho2
    rw [hq1] at hq'
    cases hq'
    have hqc : q ∈ cells p rr l qs := List.mem_cons_of_mem _ (List.mem_cons_of_mem _ (List.mem_cons_of_mem _ (List.mem_of_getElem? hq1)))
    have step : ∀ S4 : HS, MFc S4 p rr l qs { putRob F r ⟨(F.rob r).place, true, []⟩ with orders := ((F.orders.take i).map (relTurn r) ++ F.orders.drop i).set i (relTurn r o) } → MFc S4 p rr l qs { putRob F r ⟨(F.rob r).place, true, []⟩ with orders := (F.orders.take (i + 1)).map (relTurn r) ++ F.orders.drop (i + 1) } := fun S4 h => by
      rw [set_mid ho] at h
      exact h
    refine s_if (tr_cmp (cv_eqO (er_fldM (t := ⟨o.robot⟩) mi (lOdr_robot o) c_Order n_Order_robot (er_var 3)) (er_var 1))) (fun t S4 g4 => ?_) (fun t S4 g4 => s_end (s_next (.keep (.keep (.keep (.drop .nil)))) ?_))
    · have er : o.robot = some r := of_decide_eq_true t
      refine s_methM0 cal_release (mi.up g4) (lOdr_release_no o) (er_var 3) fun S5 u5 m5 => s_end (s_next (.keep (.keep (.keep (.drop .nil)))) ?_)
      refine ⟨i + 1, rfl, (gS.trans g4).upd (fr q hqc) u5, hil2, hy2, step S5 ?_⟩
      have e : relTurn r o = { o with robot := none, loaded := false } := by unfold relTurn; rw [if_pos er]
      rw [e]
      exact (m.up g4).odr hq1 u5 m5
    · have er : ¬ o.robot = some r := of_decide_eq_false t
      refine ⟨i + 1, rfl, gS.trans g4, hil2, hy2, step S4 ?_⟩
      have e : relTurn r o = o := by unfold relTurn; rw [if_neg er]
      rw [e]
      have hset : ((F.orders.take i).map (relTurn r) ++ F.orders.drop i).set i o = (F.orders.take i).map (relTurn r) ++ F.orders.drop i := by
        obtain ⟨h1, h2⟩ := List.getElem?_eq_some_iff.mp ho2
        rw [← h2, List.set_getElem_self]
      rw [hset]
      exact m.up g4
  · rintro Γ' S' ⟨i, rfl, gS, hi, hys, m⟩
    have hil : i = F.orders.length := by
      have := congrArg List.length hys
      rw [List.length_drop, List.length_map, List.length_nil] at this
      omega
    subst hil
    rw [List.take_length, List.drop_length, List.append_nil] at m
    refine SB.fixN (F := brokenDown F r) 2 gS ⟨rr, l, qs, m, fr⟩ fun S5 e5 g5 s5 => ?_
    exact s_ret (er_var 2) fun S6 v g6 rv => hq S6 v _ (g5.trans g6) rv rfl
/-! ### a table of the module, asked by get -/
def tKGet (K : PySem.W.Frag) (d : Addr) (ty tx : TE) : TE := fun σ H Q => ty σ H fun y H1 => tx σ H1 fun z H2 => ∃ (k : Str) (r : Option Value) (w : V), y = .str k ∧ PySem.W.nsIn K d k = some r ∧ (∀ v, r = some v → RelV w v) ∧ (r = none → w = z) ∧ Q w H2
theorem pe_kget {X : Cx} {nm : Str} {p apos cpos : Pos} {e f : Expr} {te tf : TE} {d : Addr} {es : Array DictEntry} {n : Nat} (D : KDict X.K X.w d es n) (hg : Gl X nm) (hm : X.mg nm = some (.ref d)) (he : PE X e te) (hf : PE X f tf) (m : M2 X (.Name nm p) "get" apos e f cpos) (hdb : (nm == ("__debug__" : Str)) = false) :
    PE X (.Call (.Attribute (.Name nm p) "get" apos) [e, f] [] cpos) (tKGet X.K d te tf) := by
  refine ⟨fun pins s σ H Q I h => ?_⟩
  refine wpAny_Call_method m.base m.few m.line PySem.F.plainAttrs_dict PySem.F.slot_dict_get PySem.F.type_dict_get (thn ((pe_glob (v := V.ref d) hg hm rfl hdb).run pins s σ H (fun x H' => x = V.ref d ∧ H' = H) I ⟨rfl, rfl⟩) fun u s1 ⟨x, H1, I1, rx, ex, eH⟩ => ?_)
  subst ex
  subst eH
  obtain rfl : u = Value.ref d := rx
  have ho := I1.kIn _ _ D.at_
  refine ⟨⟨_, ho, rfl⟩, fun b q => by cases q; exact ⟨_, ho, rfl⟩, ?_⟩
  rw [m.trees]
  refine Calls.callWith_builtin rfl (Calls.evalArgs_plain (Calls.spliced_cons (thn (he.run pins s1 σ H1 _ I1 h) fun iv s2 ⟨y, H2, I2, ry, q2⟩ =>
    Calls.spliced_cons (thn (hf.run pins s2 σ H2 _ I2 q2) fun fv s3 ⟨z, H3, I3, rz, k, r, w, ey, e1, e2, e3, q3⟩ => Calls.spliced_nil ?_))))
  subst ey
  obtain ⟨t, rfl⟩ := (show ∃ t, iv = Value.str k t from ry)
  refine call_meetsIn PySem.F.slot_dict_get ⟨_, I3.kIn _ _ D.at_, rfl⟩ PySem.F.entry_dict_get (PySem.F.args_dict_get_3 _ _ _) (meets_dict_get_default (PySem.strKind X.prog X.w) d (PySem.strKind_is X.prog X.w k t) D.low fv) ⟨_, PySem.W.mapOf_K (prog := X.prog) I3.kIn D.at_ D.lit, ?_⟩
  rw [PySem.W.find_K D.at_ e1]
  refine ⟨w, H3, I3.tok _, ?_, q3⟩
  cases r with
  | none =>
    rw [e3 rfl]
    exact rz
  | some v => exact e2 v rfl
end
end Fl

set_option Elab.async false
set_option linter.all false
set_option maxRecDepth 100000
set_option maxHeartbeats 4000000
namespace Fl
open PySem PySem.Spec PyProof.Rows L2
theorem notT {b : Bool} (h : (!b) = true) : b = false := by cases b <;> simp_all
def okOne (F : Flt) (k : Str) (r : Int) : Bool := (decide (0 ≤ r) && decide (r < F.robots.length)) && (!(decide (k = "fail") && (F.rob r).broken) && (!(decide (k = "tow") && !(F.rob r).broken) && (!decide (k = "go") || (actOf F r).isSome)))
def okEv (F : Flt) : Ev → Bool
  | .ord a b => okOrder F a b
  | .one k r => okOne F k r
def Ev.Ok : Ev → Prop
  | .ord _ _ => True
  | .one k _ => k ≠ "order"
section
variable [c : Ctx]
theorem reason_at {z : Str} (hz : z ∈ whyWords) : ∃ r, PySem.W.nsIn c.K (He.ga c.K "REASONS") z = some r ∧ ∀ v, r = some v → ∃ w : Str, RelV (V.str w) v ∧ w.length ≤ 1000 := by
  have h := moreA (c := c)
  unfold exA at h
  obtain ⟨hC, hD⟩ := He.ba (He.ba h).2
  have yes : ∀ q ∈ ([("broken", .str "robot is broken"), ("idle", .str "robot has nothing to do"), ("far", .str "robot cannot come there")] : List (Str × He.Dv)), (∃ x : Str, q.2 = .str x ∧ x.length ≤ 1000) → ∃ r, PySem.W.nsIn c.K (He.ga c.K "REASONS") q.1 = some r ∧ ∀ v, r = some v → ∃ w : Str, RelV (V.str w) v ∧ w.length ≤ 1000 := fun q hq ⟨x, hx, hxl⟩ => by
    obtain ⟨u, e1, e2⟩ := He.valsB_ok hC hq
    rw [hx] at e2
    exact ⟨_, e1, fun v hv => by cases hv; exact ⟨x, e2, hxl⟩⟩
  have no : ∀ z ∈ (["home", "behind", "hindered"] : List Str), ∃ r, PySem.W.nsIn c.K (He.ga c.K "REASONS") z = some r ∧ ∀ v, r = some v → ∃ w : Str, RelV (V.str w) v ∧ w.length ≤ 1000 := fun z hz => by
    have h2 := List.all_eq_true.mp hD z hz
    cases e : PySem.W.nsIn c.K (He.ga c.K "REASONS") z with
    | none => rw [e] at h2; cases h2
    | some r =>
      rw [e] at h2
      cases r with
      | none => exact ⟨none, rfl, fun v hv => by cases hv⟩
      | some u => cases h2
  unfold whyWords at hz
  rcases List.mem_cons.mp hz with rfl | hz
  · exact yes ("broken", .str "robot is broken") (by simp) ⟨_, rfl, by decide⟩
  rcases List.mem_cons.mp hz with rfl | hz
  · exact yes ("idle", .str "robot has nothing to do") (by simp) ⟨_, rfl, by decide⟩
  rcases List.mem_cons.mp hz with rfl | hz
  · exact yes ("far", .str "robot cannot come there") (by simp) ⟨_, rfl, by decide⟩
  exact no z hz
theorem ev_reason {k0 : Nat} {X : Cx} {e f : Expr} {Γ : Gm} {S : HS} {z d : Str} {p apos cpos : Pos} [hX : InC k0 X] (hz : z ∈ whyWords) (hd : d.length ≤ 1000) (he : ER X e Γ S z) (hf : ER X f Γ S d) (m : M2 X (.Name "REASONS" p) "get" apos e f cpos) (hg : Gl X "REASONS" := by rfl) :
    EV X (.Call (.Attribute (.Name "REASONS" p) "get" apos) [e, f] [] cpos) Γ S (fun y : Str => y.length ≤ 1000) := fun σ hσ S1 g Q k => by
  obtain ⟨es, n, D⟩ := He.SaysT.tab c.says 0
  obtain ⟨r, e1, e2⟩ := reason_at hz
  refine w_pe (pe_kget (d := He.ga c.K "REASONS") (by rw [hX.K, hX.w]; exact D) hg (by rw [hX.mg]; exact g_REASONS) pe_w pe_w m (by decide)) (he σ hσ S1 g _ fun S2 u g2 ru => hf σ hσ S2 (g.trans g2) _ fun S3 v g3 rv => ?_)
  cases r with
  | none => exact ⟨z, none, v, ru, by rw [hX.K]; exact e1, (fun v hv => by cases hv), fun _ => rfl, k S3 v d (g2.trans g3) rv hd⟩
  | some u2 =>
    obtain ⟨w, hw, hwl⟩ := e2 u2 rfl
    exact ⟨z, some u2, .str w, ru, by rw [hX.K]; exact e1, (fun v hv => by cases hv; exact hw), (fun z => by cases z), k S3 _ w (g2.trans g3) rfl hwl⟩
theorem EV.some {X : Cx} {e : Expr} {Γ : Gm} {S : HS} {P : Option Str → Prop} (h : EV X e Γ S (fun y : Str => y.length ≤ 1000)) (hP : ∀ z : Str, z.length ≤ 1000 → P (Option.some z)) : EV X e Γ S P := fun σ hσ S1 g Q k => h σ hσ S1 g Q fun S2 v y g2 r hy => k S2 v (Option.some y) g2 ⟨NN.nn r, r⟩ (hP y hy)
theorem cal_why_not : Cal "why_not" 12 (Spc (fun a : Flt × Ev × Unit => a.1.Ok ∧ a.2.1.Ok) fun a (y : Option Str) => RP (okEv a.1 a.2.1) y) := by
  refine mkCal (d := d_why_not) i_why_not sc_why_not g_why_not (fun f cdv A outer s S a Q E hp hX hq => ?_) (hb := fun _ _ _ _ _ _ us hl => match us, hl with | [_, _], _ => rfl)
  obtain ⟨F, ev, ⟨⟩⟩ := a
  obtain ⟨ok, evok⟩ : F.Ok ∧ ev.Ok := hp
  replace hq : ∀ S1 v (z : Option Str), Grow S S1 → Rp.rep S1.G v z → RP (okEv F ev) z → Q v S1.H := hq
  have nd := sc_why_not.nd
  show SB _ _ _ [some ⟨F⟩, some ⟨ev⟩, none, none, none, none] S
  refine s_set (x := ev.kind) 2 nd (er_ev0 (er_var 1)) fun S1 g1 => ?_
  refine s_if (tr_cmp (cv_eqS (er_var 2) er_str)) (fun t S2 g2 => ?_) (fun t S2 g2 => s_end ?_)
  · have hk : ev.kind = "order" := of_decide_eq_true t
    cases ev with
    | one k r => exact absurd hk evok
    | ord x y =>
      exact s_retV (ev_call cal_why_no_order (u := (F, x, y, ())) (ar_cons (er_var 0) (ar_cons (er_ev1 (e := .ord x y) (er_var 1)) (ar_cons (er_ev2 (er_var 1)) ar_nil))) trivial) fun S3 v z g3 rv hz => hq S3 v z ((g1.trans g2).trans g3) rv hz
  have hk : ¬ ev.kind = "order" := of_decide_eq_false t
  cases ev with
  | ord x y => exact absurd rfl hk
  | one k r =>
    have g12 := g1.trans g2
    refine s_set (x := r) 3 nd (er_ev1 (e := .one k r) (er_var 1)) fun S3 g3 => ?_
    have g13 := g12.trans g3
    refine s_if (tr_not (tr_chain er_int (er_var 3) (er_len b_len (eFlt_robots (er_var 0))))) (fun t S4 g4 => ?_) (fun t S4 g4 => s_end ?_)
    · refine s_ret (er_some er_str) fun S5 v g5 rv => hq S5 v _ ((g13.trans g4).trans g5) rv (RP.lit ?_ (by decide))
      have t : (decide (0 ≤ r) && decide (r < (F.robots.length : Int))) = false := notT t
      show false = okOne F k r
      unfold okOne
      rw [t]
      rfl
    have tb : (decide (0 ≤ r) && decide (r < (F.robots.length : Int))) = true := by simpa using t
    have r0 : 0 ≤ r := of_decide_eq_true (Bool.and_eq_true_iff.mp tb).1
    have r1 : r < (F.robots.length : Int) := of_decide_eq_true (Bool.and_eq_true_iff.mp tb).2
    have g14 := g13.trans g4
    refine s_set (x := (F.rob r).broken) 4 nd (eRob_broken (er_ix (eFlt_robots (er_var 0)) (er_var 3) r0 (Flt.rob_at r0 r1))) fun S5 g5 => ?_
    have g15 := g14.trans g5
    refine s_if (tr_and (p2 := default) (tr_cmp (cv_eqS (er_var 2) er_str)) fun _ => tr_bool (er_var 4)) (fun t S6 g6 => ?_) (fun t S6 g6 => s_end ?_)
    · refine s_ret (er_some er_str) fun S7 v g7 rv => hq S7 v _ ((g15.trans g6).trans g7) rv (RP.lit ?_ (by decide))
      have t : (decide (k = "fail") && (F.rob r).broken) = true := t
      show false = okOne F k r
      unfold okOne
      rw [tb, t]
      rfl
    have t1 : (decide (k = "fail") && (F.rob r).broken) = false := t
    refine s_if (tr_and (p2 := default) (tr_cmp (cv_eqS (er_var 2) er_str)) fun _ => tr_not (tr_bool (er_var 4))) (fun t S7 g7 => ?_) (fun t S7 g7 => s_end ?_)
    · refine s_ret (er_some er_str) fun S8 v g8 rv => hq S8 v _ (((g15.trans g6).trans g7).trans g8) rv (RP.lit ?_ (by decide))
      have t : (decide (k = "tow") && !(F.rob r).broken) = true := t
      show false = okOne F k r
      unfold okOne
      rw [tb, t1, t]
      rfl
    have t2 : (decide (k = "tow") && !(F.rob r).broken) = false := t
    have g17 := (g15.trans g6).trans g7
    have eo : okEv F (.one k r) = (!decide (k = "go") || (actOf F r).isSome) := by
      show okOne F k r = _
      unfold okOne
      rw [tb, t1, t2]
      rfl
    refine s_if (tr_cmp (cv_eqS (er_var 2) er_str)) (fun t S8 g8 => ?_) (fun t S8 g8 => s_end ?_)
    · have hgo : decide (k = "go") = true := t
      rw [hgo] at eo
      have eo : okEv F (.one k r) = (actOf F r).isSome := eo
      refine s_setV 5 nd (ev_call cal_waits (u := (F, r, ())) (ar_cons (er_var 0) (ar_cons (er_var 3) ar_nil)) ⟨ok, r0, r1⟩) fun S9 y g9 hy => ?_
      obtain ⟨hy1, hy2⟩ : y.isNone = (actOf F r).isSome ∧ ∀ z, y = some z → z.1 ∈ whyWords := hy
      refine s_if (tr_cmp (cv_notN (er_var 5))) (fun t S10 g10 => ?_) (fun t S10 g10 => s_end (s_end ?_))
      · obtain ⟨z, rfl⟩ := Option.isSome_iff_exists.mp t
        exact s_retV (EV.some (P := fun y : Option Str => RP (okEv F (.one k r)) y) (ev_reason (hy2 z rfl) (by decide) (er_fst (er_out (x := z) (er_var 5))) er_str ⟨rfl, rfl, rfl, rfl⟩) fun w hw => RP.lit (by rw [eo, ← hy1]; rfl) hw) fun S11 v w g11 rv hw => hq S11 v w (((((g17.trans g8).trans g9).trans g10).trans g11)) rv hw
      · have hn : y = none := by
          cases y with
          | none => rfl
          | some z => cases t
        exact s_ret (x := (none : Option Str)) er_non fun S11 v g11 rv => hq S11 v _ (((((g17.trans g8).trans g9).trans g10).trans g11)) rv (RP.non (by rw [eo, ← hy1, hn]; rfl))
    · have hgo : decide (k = "go") = false := t
      rw [hgo] at eo
      exact s_ret (x := (none : Option Str)) er_non fun S11 v g11 rv => hq S11 v _ ((g17.trans g8).trans g11) rv (RP.non (by rw [eo]; rfl))
end
end Fl

set_option Elab.async false
set_option linter.all false
set_option maxRecDepth 100000
set_option maxHeartbeats 4000000
namespace Fl
open PySem PySem.Spec PyProof.Rows L2
/-- the script: a list of ints that is read alone -/
structure Scr where
  l : List Int
instance rpScr [c : Ctx] : Rp Scr := ⟨fun H v x => ∃ a : Addr, v = .ref a ∧ ∀ H', Same H H' → SqL c.K H' a (x.l.map V.int), fun s ⟨a, e, h⟩ => ⟨a, e, fun H' s' => h H' (s.trans s')⟩⟩
section
variable [c : Ctx] {X : Cx} {a b : Expr} {Γ : Gm} {S : HS} {pos : Pos} {x : Scr} {i j : Int}
theorem er_ixC {k0 : Nat} [hX : InC k0 X] (ha : ER X a Γ S x) (hb : ER X b Γ S i) (h0 : 0 ≤ i) (h : x.l[i.toNat]? = some j) (hs : PlainIx b := by exact fun _ _ => rfl) : ER X (.Subscript a b pos) Γ S j :=
  fun σ hσ S1 g Q k => w_pe (pe_ix ix_list pe_w pe_w hs) (ha σ hσ S1 g _ fun S2 u g2 ru => hb σ hσ S2 (g.trans g2) _ fun S3 w g3 rb => by
    obtain ⟨p, e1, e2⟩ := Rp.mono g3.g ru
    exact ⟨p, _, i, .int j, e1, rb, by rw [hX.K]; exact e2 _ S3.le, atI_get h0 (by rw [List.getElem?_map, h]; rfl), k S3 _ (g2.trans g3) rfl⟩)
theorem er_lenC {k0 : Nat} [hX : InC k0 X] {p : Pos} (hm : X.mg "len" = none) (ha : ER X a Γ S x) (hg : Gl X "len" := by rfl) (hs : starEach [a] X.env = [(false, eval a X.env)] := by rfl) : ER X (.Call (.Name "len" p) [a] [] pos) Γ S (x.l.length : Int) :=
  er_b1 call_len_seq hm PySem.boot_len ha (fun S2 v Q ⟨q, e1, e2⟩ k => ⟨q, _, by rw [e1], .inl (by rw [hX.K]; exact e2 _ S2.le), k S2 _ (.refl _) (by rw [List.length_map]; rfl)⟩) (by decide) (by decide) hg hs
end
def lawCell (xs : List Int) (k : Int) : Int := if k < (xs.length : Int) then xs.getD k.toNat 0 else 0
def Dig (x : Int) : Prop := 0 ≤ x ∧ x < 1000
section
variable [c : Ctx]
theorem cal_law_cell : Cal "_law_cell" 1 (Spf (fun a : Scr × Int × Unit => 0 ≤ a.2.1) fun a => lawCell a.1.l a.2.1) := by
  refine mkCal (d := d_law_cell) i_law_cell sc_law_cell g_law_cell (fun f cdv A outer s S a Q E hp hX hq => ?_) (hb := fun _ _ _ _ _ _ us hl => match us, hl with | [_, _], _ => rfl)
  obtain ⟨xs, k, ⟨⟩⟩ := a
  have h0 : 0 ≤ k := hp
  replace hq : ∀ S1 v z, Grow S S1 → Rp.rep S1.G v z → z = lawCell xs.l k → Q v S1.H := hq
  show SB _ _ _ [some ⟨xs⟩, some ⟨k⟩] S
  refine s_if (tr_cmp (cv_lt (er_var 1) (er_lenC b_len (er_var 0)))) (fun t S1 g1 => ?_) (fun t S1 g1 => s_end ?_)
  · exact s_ret (er_ixC (er_var 0) (er_var 1) h0 (getD_at (d := 0) h0 (of_decide_eq_true t))) fun S2 v g2 rv => hq S2 v _ (g1.trans g2) rv (by unfold lawCell; rw [if_pos (of_decide_eq_true t)])
  · exact s_ret er_int fun S2 v g2 rv => hq S2 v _ (g1.trans g2) rv (by unfold lawCell; rw [if_neg (of_decide_eq_false t)])
theorem dig_mod (x : Int) : Dig (x % 1000) := ⟨by omega, by omega⟩
theorem cal_law_row : Cal "_law_row" 1 (Spc (fun a : Int × Int × Int × Unit => 0 ≤ a.2.2.1 ∧ a.2.2.1 ≤ 100) fun a (y : List Int) => y.length ≤ a.2.2.1.toNat ∧ ∀ x ∈ y, Dig x) := by
  refine mkCal (d := d_law_row) i_law_row sc_law_row g_law_row (fun f cdv A outer s S a Q E hp hX hq => ?_) (hb := fun _ _ _ _ _ _ us hl => match us, hl with | [_, _, _], _ => rfl)
  obtain ⟨cell, k, many, ⟨⟩⟩ := a
  obtain ⟨m0, m1⟩ : 0 ≤ many ∧ many ≤ 100 := hp
  replace hq : ∀ S1 v (y : List Int), Grow S S1 → Rp.rep S1.G v y → (y.length ≤ many.toNat ∧ ∀ x ∈ y, Dig x) → Q v S1.H := hq
  have nd := sc_law_row.nd
  show SB _ _ _ [some ⟨cell⟩, some ⟨k⟩, some ⟨many⟩, none, none, none] S
  refine s_setN (α := Int) 3 nd en_lst0 fun S1 p g1 p0 m => ?_
  -- behind the first if
  have go : ∀ (cell : Int) (S2 : HS), Grow S S2 → ML S2 p ([] : List Int) → SB (bx d_law_row N_law_row f cdv A outer s S.H E) (d_law_row.body.drop 2) { nx := fun _ H' => Q .non H', rt := Q } [some ⟨cell⟩, some ⟨k⟩, some ⟨many⟩, some ⟨(⟨p⟩ : Adr)⟩, none, none] S2 := fun cell S2 g2 m2 => by
    refine s_if (tr_cmp (cv_ge (er_var 0) (er_pow er_int er_int ⟨by decide, by decide, by decide⟩))) (fun t S3 g3 => ?_) (fun t S3 g3 => s_end ?_)
    · refine s_for (α := Int) PassesOwn.never rfl (it_range b_range er_int (by decide)) (bg_name 4 nd) fun S4 g4 => ?_
      refine ⟨fun r Γ' S' => ∃ (cl : Int) (xs : List Int), Γ' = [some ⟨cl⟩, some ⟨k⟩, some ⟨many⟩, some ⟨(⟨p⟩ : Adr)⟩, none, none] ∧ Grow S S' ∧ Same S4.G S'.G ∧ ML S' p xs ∧ xs.length ≤ many.toNat ∧ ∀ x ∈ xs, Dig x, ⟨cell, [], rfl, (g2.trans g3).trans g4, Same.refl _, (m2.up g3).up g4, Nat.zero_le _, fun x hx => by cases hx⟩, fun r Γ' S' ⟨_, _, _, _, h, _⟩ => h, ?_, ?_⟩
      · rintro pre x r Γ' S' hx ⟨cl, xs, rfl, gS, s4, m, hl, hd⟩ S5 g5
        refine s_if (tr_and (p2 := default) (tr_cmp (cv_gt (er_var 0) er_int)) fun _ => tr_cmp (cv_lt (er_lenM b_len (m.up g5) (er_var 3)) (er_var 2))) (fun t S6 g6 => ?_) (fun t S6 g6 => s_end (s_next (.keep (.keep (.keep (.keep (.drop (.drop .nil)))))) ⟨cl, xs, rfl, (gS.trans g5).trans g6, s4.trans (g5.trans g6).g, (m.up g5).up g6, hl, hd⟩))
        have tl : (xs.length : Int) < many := of_decide_eq_true (Bool.and_eq_true_iff.mp t).2
        refine s_app ((m.up g5).up g6) (er_var 3) (er_mod (er_intI b_int (er_var 0)) er_int (by decide)) (by omega) fun S7 u7 m7 => ?_
        refine s_set (x := cl / 1000) 0 nd (er_div (er_var 0) er_int ⟨by decide, by decide⟩) fun S8 g8 => s_end (s_next (.keep (.keep (.keep (.keep (.drop (.drop .nil)))))) ?_)
        refine ⟨cl / 1000, xs ++ [cl % 1000], rfl, (((gS.trans g5).trans g6).upd p0 u7).trans g8, ((s4.trans (g5.trans g6).g).trans u7.g).trans g8.g, m7.up g8, by rw [List.length_append, List.length_singleton]; omega, fun z hz => ?_⟩
        rcases List.mem_append.mp hz with hz | hz
        · exact hd z hz
        · rw [List.mem_singleton.mp hz]
          exact dig_mod cl
      · rintro Γ' S' ⟨cl, xs, rfl, gS, _, m, hl, hd⟩
        refine SB.fixM 3 gS p0 m fun S5 e5 g5 _ _ => ?_
        exact s_ret (er_var 3) fun S6 v g6 rv => hq S6 v _ (g5.trans g6) rv ⟨hl, hd⟩
    · refine s_set (x := (cell * 48271 + k * 69621 + 11) % 2147483647) 5 nd (er_mod (er_intI b_int (er_add (er_add (er_mul (er_var 0) er_int (.inr ⟨by decide, by decide⟩)) (er_mul (er_var 1) er_int (.inr ⟨by decide, by decide⟩))) er_int)) er_int (by decide)) fun S4 g4 => ?_
      refine s_for (α := Int) PassesOwn.never rfl (it_range b_range (er_var 2) (by omega)) (bg_name 4 nd) fun S5 g5 => ?_
      refine ⟨fun r Γ' S' => ∃ (sd : Int) (xs : List Int), Γ' = [some ⟨cell⟩, some ⟨k⟩, some ⟨many⟩, some ⟨(⟨p⟩ : Adr)⟩, none, some ⟨sd⟩] ∧ Grow S S' ∧ Same S5.G S'.G ∧ ML S' p xs ∧ xs.length + r.length ≤ many.toNat ∧ ∀ x ∈ xs, Dig x, ⟨_, [], rfl, ((g2.trans g3).trans g4).trans g5, Same.refl _, ((m2.up g3).up g4).up g5, by rw [rangeI_len]; simp, fun x hx => by cases hx⟩, fun r Γ' S' ⟨_, _, _, _, h, _⟩ => h, ?_, ?_⟩
      · rintro pre x r Γ' S' hx ⟨sd, xs, rfl, gS, s5, m, hl, hd⟩ S6 g6
        rw [List.length_cons] at hl
        refine s_set (x := (sd * 16807 + 7 * x + 1) % 2147483647) 5 nd (er_mod (er_intI b_int (er_add (er_add (er_mul (er_var 5) er_int (.inr ⟨by decide, by decide⟩)) (er_mul er_int (er_var 4) (.inl ⟨by decide, by decide⟩))) er_int)) er_int (by decide)) fun S7 g7 => ?_
        refine s_app ((m.up g6).up g7) (er_var 3) (er_mod (er_intI b_int (er_div (er_var 5) er_int ⟨by decide, by decide⟩)) er_int (by decide)) (by omega) fun S8 u8 m8 => s_next (.keep (.keep (.keep (.keep (.drop (.keep .nil)))))) ?_
        refine ⟨_, xs ++ [_], rfl, ((gS.trans g6).trans g7).upd p0 u8, (s5.trans (g6.trans g7).g).trans u8.g, m8, by rw [List.length_append, List.length_singleton]; omega, fun z hz => ?_⟩
        rcases List.mem_append.mp hz with hz | hz
        · exact hd z hz
        · rw [List.mem_singleton.mp hz]
          exact dig_mod _
      · rintro Γ' S' ⟨sd, xs, rfl, gS, _, m, hl, hd⟩
        refine SB.fixM 3 gS p0 m fun S6 e6 g6 _ _ => ?_
        exact s_ret (er_var 3) fun S7 v g7 rv => hq S7 v _ (g6.trans g7) rv ⟨by rw [List.length_nil] at hl; exact hl, hd⟩
  refine s_if (tr_cmp (cv_lt (er_var 0) er_int)) (fun t S2 g2 => ?_) (fun t S2 g2 => s_end (go cell S2 (g1.trans g2) (m.up g2)))
  refine s_set (x := 1 - 2 * cell) 0 nd (er_sub er_int (er_mul er_int (er_var 0) (.inl ⟨by decide, by decide⟩))) fun S3 g3 => s_end (go (1 - 2 * cell) S3 ((g1.trans g2).trans g3) ((m.up g2).up g3))
end
end Fl

set_option Elab.async false
set_option linter.all false
set_option maxRecDepth 100000
set_option maxHeartbeats 4000000
namespace Fl
open PySem PySem.Spec PyProof.Rows L2
/-- an event that may be meant -/
def EvIn (st ro : Int) : Ev → Prop
  | .ord a b => 0 ≤ a ∧ a < st ∧ 0 ≤ b ∧ b < st
  | .one k r => (k = "fail" ∨ k = "tow" ∨ k = "go") ∧ 0 ≤ r ∧ r < ro
section
variable {X : Cx} {a b d : Expr} {Γ : Gm} {S : HS} {pos : Pos} {i j : Int} {s : Str}
theorem er_evOne {kk : Nat} (h1 : ER X a Γ S s) (h2 : ER X b Γ S i) (hs : starEach [a, b] X.env = (false, eval a X.env) :: starEach [b] X.env := by rfl) (hs2 : starEach [b] X.env = [(false, eval b X.env)] := by rfl) : ER X (.Tuple [a, b] kk pos) Γ S (Ev.one s i) := fun σ hσ S1 g Q k =>
  w_pe (pe_tup (pa_cons pe_w (pa_cons pe_w pa_nil hs2) hs)) (h1 σ hσ S1 g _ fun S2 u g2 ru => h2 σ hσ S2 (g.trans g2) _ fun S3 v g3 rv => ⟨(by show 2 ≤ sizeLine; decide), fun p hp => by
    cases (show u = V.str s from ru)
    cases (show v = V.int i from rv)
    exact k (S3.new p _ hp) _ ((g2.trans g3).trans (.new S3 p _ hp)) ⟨p, rfl, HS.new_at⟩⟩)
theorem er_evOrd {kk : Nat} (h1 : ER X a Γ S ("order" : Str)) (h2 : ER X b Γ S i) (h3 : ER X d Γ S j) (s1 : starEach [a, b, d] X.env = (false, eval a X.env) :: starEach [b, d] X.env := by rfl) (s2 : starEach [b, d] X.env = (false, eval b X.env) :: starEach [d] X.env := by rfl) (s3 : starEach [d] X.env = [(false, eval d X.env)] := by rfl) :
    ER X (.Tuple [a, b, d] kk pos) Γ S (Ev.ord i j) := fun σ hσ S1 g Q k => w_pe (pe_tup (pa_cons pe_w (pa_cons pe_w (pa_cons pe_w pa_nil s3) s2) s1)) (h1 σ hσ S1 g _ fun S2 u g2 ru => h2 σ hσ S2 (g.trans g2) _ fun S3 v g3 rv => h3 σ hσ S3 ((g.trans g2).trans g3) _ fun S4 w g4 rw' =>
    ⟨(by show 3 ≤ sizeLine; decide), fun p hp => by
      cases (show u = V.str "order" from ru)
      cases (show v = V.int i from rv)
      cases (show w = V.int j from rw')
      exact k (S4.new p _ hp) _ (((g2.trans g3).trans g4).trans (.new S4 p _ hp)) ⟨p, rfl, HS.new_at⟩⟩)
end
section
variable [c : Ctx]
theorem cal_law_event : Cal "_law_event" 1 (Spc (fun a : Int × Int × Int × Unit => 0 ≤ a.2.1 ∧ a.2.1 ≤ 100 ∧ 0 < a.2.2.1 ∧ a.2.2.1 ≤ 100) fun a (y : Ev) => EvIn a.2.1 a.2.2.1 y) := by
  refine mkCal (d := d_law_event) i_law_event sc_law_event g_law_event (fun f cdv A outer s S a Q E hp hX hq => ?_) (hb := fun _ _ _ _ _ _ us hl => match us, hl with | [_, _, _], _ => rfl)
  obtain ⟨v, st, ro, ⟨⟩⟩ := a
  obtain ⟨s0, s1, r0, r1⟩ : 0 ≤ st ∧ st ≤ 100 ∧ 0 < ro ∧ ro ≤ 100 := hp
  replace hq : ∀ S1 u (y : Ev), Grow S S1 → Rp.rep S1.G u y → EvIn st ro y → Q u S1.H := hq
  have nd := sc_law_event.nd
  have md : 0 ≤ v / 12 % ro ∧ v / 12 % ro < ro := ⟨Int.emod_nonneg _ (by omega), Int.emod_lt_of_pos _ r0⟩
  show SB _ _ _ [some ⟨v⟩, some ⟨st⟩, some ⟨ro⟩, none, none, none] S
  refine s_set (x := v % 12) 3 nd (er_mod (er_intI b_int (er_var 0)) er_int (by decide)) fun S1 g1 => ?_
  refine s_set (x := v / 12) 4 nd (er_div (er_var 0) er_int ⟨by decide, by decide⟩) fun S2 g2 => ?_
  have g12 := g1.trans g2
  refine s_if (tr_and (p2 := default) (tr_cmp (cv_lt (er_var 3) er_int)) fun _ => tr_cmp (cv_gt (er_var 1) er_int)) (fun t S3 g3 => ?_) (fun t S3 g3 => s_end ?_)
  · have st1 : 1 < st := of_decide_eq_true (Bool.and_eq_true_iff.mp t).2
    have ms : 0 ≤ v / 12 % st ∧ v / 12 % st < st := ⟨Int.emod_nonneg _ (by omega), Int.emod_lt_of_pos _ (by omega)⟩
    refine s_set (x := v / 12 % st) 5 nd (er_mod (er_intI b_int (er_var 4)) (er_var 1) (by omega)) fun S4 g4 => ?_
    exact s_ret (er_evOrd er_str (er_var 5) (er_mod (er_intI b_int (er_add (er_add (er_var 5) er_int) (er_mod (er_intI b_int (er_div (er_var 4) (er_var 1) ⟨by omega, by omega⟩)) (er_sub (er_var 1) er_int) (by omega)))) (er_var 1) (by omega))) fun S5 u g5 ru => hq S5 u _ (((g12.trans g3).trans g4).trans g5) ru
      ⟨ms.1, ms.2, Int.emod_nonneg _ (by omega), Int.emod_lt_of_pos _ (by omega)⟩
  refine s_if (tr_cmp (cv_eqI (er_var 3) er_int)) (fun _ S4 g4 => ?_) (fun _ S4 g4 => s_end ?_)
  · exact s_ret (er_evOne er_str (er_mod (er_intI b_int (er_var 4)) (er_var 2) r0)) fun S5 u g5 ru => hq S5 u _ (((g12.trans g3).trans g4).trans g5) ru ⟨.inl rfl, md⟩
  refine s_if (tr_cmp (cv_eqI (er_var 3) er_int)) (fun _ S5 g5 => ?_) (fun _ S5 g5 => s_end ?_)
  · exact s_ret (er_evOne er_str (er_mod (er_intI b_int (er_var 4)) (er_var 2) r0)) fun S6 u g6 ru => hq S6 u _ ((((g12.trans g3).trans g4).trans g5).trans g6) ru ⟨.inr (.inl rfl), md⟩
  · exact s_ret (er_evOne er_str (er_mod (er_intI b_int (er_var 4)) (er_var 2) r0)) fun S6 u g6 ru => hq S6 u _ ((((g12.trans g3).trans g4).trans g5).trans g6) ru ⟨.inr (.inr rfl), md⟩
/-! ### the box of numbers: [row, place], of which the place changes -/
def BX (S : HS) (p : Addr) : Prop := S.G p = none ∧ ∃ (v : V) (xs : List Int) (n : Int), S.H p = some (.lst [v, .int n]) ∧ Rp.rep S.G v xs ∧ 0 ≤ n
theorem BX.up {S S1 : HS} {p : Addr} (h : BX S p) (g : Grow S S1) : BX S1 p := by
  obtain ⟨h1, v, xs, n, h2, r, h0⟩ := h
  exact ⟨g.n p (by rw [h2]; exact fun z => nomatch z) h1, v, xs, n, g.h _ _ h2, Rp.mono g.g r, h0⟩
theorem BX.upd {S S1 : HS} {p q : Addr} (h : BX S p) (u : Upd S q S1) (ne : p ≠ q) : BX S1 p := by
  obtain ⟨h1, v, xs, n, h2, r, h0⟩ := h
  exact ⟨u.n p (by rw [h2]; exact fun z => nomatch z) h1, v, xs, n, u.h p ne _ h2, Rp.mono u.g r, h0⟩
theorem BX.there {S : HS} {p : Addr} (h : BX S p) : S.H p ≠ none := by
  obtain ⟨_, _, _, _, h2, _⟩ := h
  rw [h2]
  exact fun z => nomatch z
/-- e changes the box p and gives some y of P -/
def EB {α : Type} [Rp α] (X : Cx) (e : Expr) (Γ : Gm) (S : HS) (p : Addr) (P : α → Prop) : Prop :=
  ∀ σ, Slots S.G σ Γ → ∀ S1, Grow S S1 → BX S1 p → ∀ Q : VK, (∀ S2 v y, Upd S1 p S2 → BX S2 p → Rp.rep S2.G v y → P y → Q v S2.H) → wE X e σ S1.H Q
end
end Fl

set_option Elab.async false
set_option linter.all false
set_option maxRecDepth 100000
set_option maxHeartbeats 4000000
namespace Fl
open PySem PySem.Spec PyProof.Rows L2
def BXx (S : HS) (p : Addr) (xs : List Int) (n : Int) : Prop := S.G p = none ∧ ∃ v : V, S.H p = some (.lst [v, .int n]) ∧ Rp.rep S.G v xs
theorem BXx.up {S S1 : HS} {p : Addr} {xs : List Int} {n : Int} (h : BXx S p xs n) (g : Grow S S1) : BXx S1 p xs n := by
  obtain ⟨h1, v, h2, r⟩ := h
  exact ⟨g.n p (by rw [h2]; exact fun z => nomatch z) h1, v, g.h _ _ h2, Rp.mono g.g r⟩
theorem BX.x {S : HS} {p : Addr} (h : BX S p) : ∃ xs n, 0 ≤ n ∧ BXx S p xs n := by
  obtain ⟨h1, v, xs, n, h2, r, h0⟩ := h
  exact ⟨xs, n, h0, h1, v, h2, r⟩
theorem BXx.b {S : HS} {p : Addr} {xs : List Int} {n : Int} (h : BXx S p xs n) (h0 : 0 ≤ n) : BX S p := by
  obtain ⟨h1, v, h2, r⟩ := h
  exact ⟨h1, v, xs, n, h2, r, h0⟩
section
variable {X : Cx} {e a : Expr} {Γ : Gm} {S : HS} {pos p2 tpos : Pos} {p : Addr} {xs : List Int} {n m : Int} {h} {D : Ends} {rest : List Stmt}
theorem er_bx0 (hm : BXx S p xs n) (ha : ER X a Γ S (⟨p⟩ : Adr)) : ER X (.Subscript a (.Constant (.int 0) h p2) pos) Γ S xs := fun σ hσ S1 g Q k =>
  w_pe (pe_ix ix_list pe_w pe_int (fun _ _ => rfl)) (ha σ hσ S1 g _ fun S2 u g2 ru => by
    obtain ⟨_, v, h2, r⟩ := hm.up (g.trans g2)
    exact ⟨p, _, 0, v, ru, rfl, SqL.of h2, rfl, k S2 v g2 r⟩)
theorem er_bx1 (hm : BXx S p xs n) (ha : ER X a Γ S (⟨p⟩ : Adr)) : ER X (.Subscript a (.Constant (.int 1) h p2) pos) Γ S n := fun σ hσ S1 g Q k =>
  w_pe (pe_ix ix_list pe_w pe_int (fun _ _ => rfl)) (ha σ hσ S1 g _ fun S2 u g2 ru => by
    obtain ⟨_, v, h2, r⟩ := hm.up (g.trans g2)
    exact ⟨p, _, 1, .int n, ru, rfl, SqL.of h2, rfl, k S2 _ g2 rfl⟩)
/-- box[1] = e -/
theorem s_bx1 (hm : BXx S p xs n) (he : ER X e Γ S m) (ha : ER X a Γ S (⟨p⟩ : Adr)) (k : ∀ S2 : HS, Upd S p S2 → BXx S2 p xs m → SB X rest D Γ S2)
    (hsub : ∀ v, assign (.Subscript a (.Constant (.int 1) h p2) tpos) X.env v = (do
      let ov ← holding [v] (eval a X.env)
      let iv ← holding [v, ov] (eval (.Constant (.int 1) h p2) X.env)
      standAt tpos
      holding [v, ov, iv] (setItem ov iv v)
      release [v, ov, iv] []) := by intro _; rfl) (hs : swapsWithSole [.Subscript a (.Constant (.int 1) h p2) tpos] e pos.line X.env = pure false := by rfl) (hw : swappedStores [.Subscript a (.Constant (.int 1) h p2) tpos] e X.env = pure none := by rfl)
    (h2 : (assignEach [.Subscript a (.Constant (.int 1) h p2) tpos] X.env).map (·.2) = [assign (.Subscript a (.Constant (.int 1) h p2) tpos) X.env] := by rfl) : SB X (.Assign [.Subscript a (.Constant (.int 1) h p2) tpos] e pos :: rest) D Γ S := fun σ hσ => by
  refine w_cons (w_ps (ps_asg pe_w (pg_sub pe_w pe_int set_list hsub) hs hw h2) (he σ hσ S (.refl _) _ fun S1 w g1 rw' => ha σ hσ S1 g1 _ fun S2 u g2 ru => ?_))
  obtain ⟨n3, v, h3, r3⟩ := hm.up (g1.trans g2)
  cases (show w = V.int m from rw')
  refine ⟨p, _, 1, 1, ru, rfl, h3, rfl, ?_⟩
  exact k (S2.add p (.lst [v, .int m]) n3) ((Upd.add n3).after (g1.trans g2)) ⟨n3, v, upd_same, r3⟩ σ (hσ.mono (g1.trans g2).g)
end
section
variable [c : Ctx]
/-- _law_draw(box, many) -/
def SpDr : Sp := fun vs H Q _ => ∃ (S : HS) (p : Addr) (many : Int), S.H = H ∧ vs = [.ref p, .int many] ∧ BX S p ∧ 0 < many ∧ ∀ (S1 : HS) (y : Int), Upd S p S1 → BX S1 p → (0 ≤ y ∧ y < many) → Q (.int y) S1.H
theorem cal_law_draw : Cal "_law_draw" 1 SpDr := by
  obtain ⟨fd, FF, G⟩ := fn_sp (d := d_law_draw) (i := i_law_draw) (sp := SpDr) (k := 0) rfl sc_law_draw (fun vs H Q E ⟨S, p, m, _, e, _⟩ => by rw [e]; rfl) (fun f cdv A outer s H vs Q E hX h => by
    obtain ⟨S, p, many, rfl, rfl, hB, m0, hq⟩ := h
    obtain ⟨xs, n, n0, hx⟩ := hB.x
    have nd := sc_law_draw.nd
    have md : ∀ z : Int, 0 ≤ z % many ∧ z % many < many := fun z => ⟨Int.emod_nonneg _ (by omega), Int.emod_lt_of_pos _ m0⟩
    refine (show SB (bx d_law_draw N_law_draw f cdv A outer s S.H E) _ _ [some ⟨(⟨p⟩ : Adr)⟩, some ⟨many⟩, none] S from ?_) _ (Slots.cons (t := ⟨(⟨p⟩ : Adr)⟩) rfl (Slots.cons (t := ⟨many⟩) rfl (Slots.nones 1)))
    refine s_set (x := n) 2 nd (er_bx1 hx (er_var 0)) fun S1 g1 => ?_
    refine s_bx1 (hx.up g1) (er_add (er_var 2) er_int) (er_var 0) fun S2 u2 h2 => ?_
    have hu : Upd S p S2 := u2.after g1
    have fin : ∀ (S3 S4 : HS) (z : Int) (v : V), Grow S2 S3 → Grow S3 S4 → Rp.rep S4.G v (z % many) → Q v S4.H := fun S3 S4 z v g3 g4 rv => by
      cases (show v = V.int (z % many) from rv)
      exact hq S4 _ (hu.trans ((g3.trans g4).toUpd p) (by obtain ⟨_, w, e, _⟩ := h2; rw [e]; exact fun z => nomatch z)) ((h2.up (g3.trans g4)).b (by omega)) (md z)
    refine s_if (tr_cmp (cv_lt (er_var 2) (er_len b_len (er_bx0 h2 (er_var 0))))) (fun t S3 g3 => ?_) (fun t S3 g3 => s_end ?_)
    · have ht : n < (xs.length : Int) := of_decide_eq_true t
      exact s_ret (er_mod (er_intI b_int (er_ix (er_bx0 (h2.up g3) (er_var 0)) (er_var 2) n0 (getD_at (d := 0) n0 ht))) (er_var 1) m0) fun S4 v g4 rv => fin S3 S4 _ v g3 g4 rv
    · exact s_ret (er_mod (er_intI b_int (er_add (er_mul (er_var 2) er_int (.inr ⟨by decide, by decide⟩)) er_int)) (er_var 1) m0) fun S4 v g4 rv => fin S3 S4 _ v g3 g4 rv)
  exact ⟨_, fd, _, FF, g_law_draw, G.kp, FunD.bindsN G (fun _ _ _ _ _ _ us hl => match us, hl with | [_, _], _ => rfl)⟩
section
variable {X : Cx} {a b e : Expr} {Γ : Gm} {S : HS} {pos np : Pos} {p : Addr} {many : Int}
theorem eb_draw {k0 : Nat} [hX : InC k0 X] (ha : ER X a Γ S (⟨p⟩ : Adr)) (hb : ER X b Γ S many) (m0 : 0 < many) (hj : 1 ≤ k0 := by decide) (hg : Gl X "_law_draw" := by rfl) (he : starEach [a, b] X.env = (false, eval a X.env) :: starEach [b] X.env := by rfl)
    (hs2 : starEach [b] X.env = [(false, eval b X.env)] := by rfl) (hpl : (backTo pos (starEach [b] X.env)).any (·.1) = false := by rfl) : EB X (.Call (.Name "_law_draw" np) [a, b] [] pos) Γ S p (fun y : Int => 0 ≤ y ∧ y < many) := fun σ hσ S1 g hB Q k => by
  obtain ⟨f, fd, ps, FF, hm, hk, hbd⟩ := (cal_law_draw (c := c)).ex
  refine w_pe (pe_call (fn_in hX FF) (hX.room.mono hj) hg (by rw [hX.mg]; exact hm) (by rw [hX.K]; exact hk) (by rw [hX.K]; exact hbd) .nil pass0 (pa_cons pe_w (pa_cons pe_w pa_nil hs2) he) (by decide) he hpl) (ha σ hσ S1 g _ fun S2 u g2 ru => hb σ hσ S2 (g.trans g2) _ fun S3 v g3 rv => ?_)
  cases (show u = V.ref p from ru)
  cases (show v = V.int many from rv)
  exact ⟨S3, p, many, rfl, rfl, hB.up (g2.trans g3), m0, fun S4 y u4 b4 hy => k S4 _ y (u4.after (g2.trans g3)) b4 rfl hy⟩
end
end
end Fl

set_option Elab.async false
set_option linter.all false
set_option maxRecDepth 100000
set_option maxHeartbeats 4000000
namespace Fl
open PySem PySem.Spec PyProof.Rows L2
section
variable [c : Ctx]
theorem ev_cat {α : Type} [Rp α] {X : Cx} {a b : Expr} {Γ : Gm} {S : HS} {pos : Pos} {xs : List α} {P : List α → Prop} (ha : ER X a Γ S xs) (hb : EV X b Γ S P) (hz : ∀ y, P y → xs.length + y.length ≤ sizeLine) : EV X (.BinOp a .Add b pos) Γ S (fun z => ∃ y, P y ∧ z = xs ++ y) :=
  fun σ hσ S1 g Q k => w_pe (pe_op op_cat pe_w pe_w) (ha σ hσ S1 g _ fun S2 u g2 ru => hb σ hσ S2 (g.trans g2) _ fun S3 w y g3 rb hy => by
    obtain ⟨l, us, e1, h1, r1⟩ := Rp.mono g3.g ru
    obtain ⟨m, ws, e2, h2, r2⟩ := rb
    exact ⟨l, m, us, ws, e1, e2, S3.le _ _ h1, S3.le _ _ h2, by rw [r1.len, r2.len]; exact hz y hy, fun p hp => k (S3.new p _ hp) _ _ ((g2.trans g3).trans (.new S3 p _ hp)) ⟨p, us ++ ws, rfl, HS.new_at, (r1.app r2).mono (Grow.new S3 p _ hp).g⟩ ⟨y, hy, rfl⟩⟩)
/-- _law_box(script, first, last): a new box -/
def SpBx : Sp := fun vs H Q _ => ∃ (S : HS) (a : Scr × Int × Int × Unit), S.H = H ∧ Args.reps S.G vs a ∧ (0 ≤ a.2.1 ∧ a.2.1 ≤ 100 ∧ 0 ≤ a.2.2.1 ∧ a.2.2.1 ≤ 100) ∧ ∀ (S1 : HS) (p : Addr), Grow S S1 → S.H p = none → BX S1 p → Q (.ref p) S1.H
theorem cal_law_box : Cal "_law_box" 2 SpBx := by
  obtain ⟨fd, FF, G⟩ := fn_sp (d := d_law_box) (i := i_law_box) (sp := SpBx) (k := 1) rfl sc_law_box (fun vs H Q E ⟨S, a, _, hr, _⟩ => Args.len hr) (fun f cdv A outer s H vs Q E hX h => by
    obtain ⟨S, ⟨script, lo, hi, ⟨⟩⟩, rfl, ha, hb, hq⟩ := h
    obtain ⟨l0, l1, h0, h1⟩ : 0 ≤ lo ∧ lo ≤ 100 ∧ 0 ≤ hi ∧ hi ≤ 100 := hb
    have nd := sc_law_box.nd
    have hl : vs.length = 3 := Args.len ha
    have hs : Slots S.G (L2.start N_law_box vs) [some ⟨script⟩, some ⟨lo⟩, some ⟨hi⟩, none, none] := by
      have q : Slots S.G (vs.map some ++ List.replicate 2 none) (Args.gm (script, lo, hi, ()) 2) := Args.sl ha
      unfold L2.start
      rw [hl]
      exact q
    refine (show SB (bx d_law_box N_law_box f cdv A outer s S.H E) _ _ [some ⟨script⟩, some ⟨lo⟩, some ⟨hi⟩, none, none] S from ?_) _ hs
    refine s_set (x := ([] : List Int)) 3 nd er_lst0 fun S1 g1 => ?_
    refine s_for (α := Int) PassesOwn.never rfl (it_range2 b_range (er_var 1) (er_var 2) (by omega)) (bg_name 4 nd) fun S2 g2 => ?_
    refine ⟨fun r Γ' S' => ∃ xs : List Int, Γ' = [some ⟨script⟩, some ⟨lo⟩, some ⟨hi⟩, some ⟨xs⟩, none] ∧ Grow S S' ∧ Same S2.G S'.G ∧ xs.length + 12 * r.length ≤ 1200 ∧ ∀ k ∈ r, 0 ≤ k, ⟨[], rfl, g1.trans g2, Same.refl _, by rw [rangeI_len]; simp; omega, fun k hk => by have := mem_rangeI.mp hk; omega⟩, fun r Γ' S' ⟨_, _, _, h, _⟩ => h, ?_, ?_⟩
    · rintro pre k r Γ' S' hx ⟨xs, rfl, gS, s2, hl, hk⟩ S3 g3
      rw [List.length_cons] at hl
      have hk0 := hk k List.mem_cons_self
      refine s_setV 3 nd (ev_cat (er_var 3) (ev_call cal_law_row (u := (lawCell script.l k, k, 12, ())) (ar_cons (er_call cal_law_cell (u := (script, k, ())) (ar_cons (er_var 0) (ar_cons (er_var 4) ar_nil)) hk0) (ar_cons (er_var 4) (ar_cons er_int ar_nil))) ⟨(show (0 : Int) ≤ 12 by decide), (show (12 : Int) ≤ 100 by decide)⟩) fun y hy => Nat.le_trans (show xs.length + y.length ≤ 1200 by have : y.length ≤ 12 := hy.1; omega) (by decide)) fun S4 z g4 hz => s_next (.keep (.keep (.keep (.keep (.drop .nil))))) ?_
      obtain ⟨y, hy, rfl⟩ := hz
      have hy1 : y.length ≤ 12 := hy.1
      exact ⟨xs ++ y, rfl, (gS.trans g3).trans g4, s2.trans (g3.trans g4).g, by rw [List.length_append]; omega, fun k hk2 => hk k (List.mem_cons_of_mem _ hk2)⟩
    · rintro Γ' S' ⟨xs, rfl, gS, _, _, _⟩
      intro σ hσ
      refine w_cons (w_ps (ps_ret (pe_lst (pa_cons pe_w (pa_cons pe_int pa_nil rfl) rfl))) ((er_var 3 : ER _ _ [some ⟨script⟩, some ⟨lo⟩, some ⟨hi⟩, some ⟨xs⟩, none] S' xs) σ hσ S' (.refl _) _ fun S4 v g4 rv => ⟨(by show 2 ≤ sizeLine; decide), fun p hp => ?_⟩))
      exact hq (S4.add p _ (S4.le.free hp)) p ((gS.trans g4).trans (.add S4 p _ hp)) ((gS.trans g4).h.free hp) ⟨S4.le.free hp, v, xs, 0, upd_same, rv, by decide⟩)
  exact ⟨_, fd, _, FF, g_law_box, G.kp, FunD.bindsN G (fun _ _ _ _ _ _ us hl => match us, hl with | [_, _, _], _ => rfl)⟩
end
end Fl

set_option Elab.async false
set_option linter.all false
set_option maxRecDepth 100000
set_option maxHeartbeats 4000000
namespace Fl
open PySem PySem.Spec PyProof.Rows L2
theorem cut_to_len {α : Type} (xs : List α) (k : Nat) : (cutL xs none (some (k : Int))).length ≤ k := by
  unfold cutL
  rw [List.length_take, HT.sIx_nat, HT.sIx_none]
  omega
section
variable [c : Ctx]
theorem cal_law_values : Cal "_law_values" 2 (Spc (fun a : Scr × Int × Int × Unit => 0 ≤ a.2.1 ∧ a.2.1 ≤ 100 ∧ 0 ≤ a.2.2.1 ∧ a.2.2.1 ≤ 100 ∧ a.1.l.length ≤ 100000) fun a (y : List Int) => y.length ≤ a.2.2.1.toNat) := by
  refine mkCal (d := d_law_values) i_law_values sc_law_values g_law_values (fun f cdv A outer s S a Q E hp hX hq => ?_) (hb := fun _ _ _ _ _ _ us hl => match us, hl with | [_, _, _], _ => rfl)
  obtain ⟨script, lo, many, ⟨⟩⟩ := a
  obtain ⟨l0, l1, m0, m1, hz⟩ : 0 ≤ lo ∧ lo ≤ 100 ∧ 0 ≤ many ∧ many ≤ 100 ∧ script.l.length ≤ 100000 := hp
  replace hq : ∀ S1 v (y : List Int), Grow S S1 → Rp.rep S1.G v y → y.length ≤ many.toNat → Q v S1.H := hq
  have nd := sc_law_values.nd
  have sz : ∀ n : Nat, n ≤ 1000 → n ≤ sizeLine := fun n h => Nat.le_trans h (by decide)
  have fin : ∀ (xs : List Int) (S3 : HS), Grow S S3 → SB (bx d_law_values N_law_values f cdv A outer s S.H E) (d_law_values.body.drop 3) { nx := fun _ H' => Q .non H', rt := Q } [some ⟨script⟩, some ⟨lo⟩, some ⟨many⟩, some ⟨xs⟩, none, none] S3 := fun xs S3 g3 => by
    refine s_ret (er_sl_to (er_var 3) (er_var 2)) fun S4 v g4 rv => hq S4 v _ (g3.trans g4) rv ?_
    have := cut_to_len xs many.toNat
    rw [Int.toNat_of_nonneg m0] at this
    exact this
  show SB _ _ _ [some ⟨script⟩, some ⟨lo⟩, some ⟨many⟩, none, none, none] S
  refine s_set (x := ([] : List Int)) 3 nd er_lst0 fun S1 g1 => ?_
  refine s_for (α := Int) PassesOwn.never rfl (it_range2 b_range (er_var 1) (er_lenC b_len (er_var 0)) (by omega)) (bg_name 4 nd) fun S2 g2 => ?_
  refine ⟨fun r Γ' S' => ∃ xs : List Int, Γ' = [some ⟨script⟩, some ⟨lo⟩, some ⟨many⟩, some ⟨xs⟩, none, none] ∧ Grow S S' ∧ Same S2.G S'.G ∧ xs.length ≤ 300 ∧ ∀ k ∈ r, 0 ≤ k ∧ k < (script.l.length : Int), ⟨[], rfl, g1.trans g2, Same.refl _, Nat.zero_le _, fun k hk => by have := mem_rangeI.mp hk; omega⟩, fun r Γ' S' ⟨_, _, _, h, _⟩ => h, ?_, ?_⟩
  · rintro pre k r Γ' S' hx ⟨xs, rfl, gS, s2, hl, hk⟩ S3 g3
    obtain ⟨k0, k1⟩ := hk k List.mem_cons_self
    have hr : ∀ k ∈ r, 0 ≤ k ∧ k < (script.l.length : Int) := fun k hk2 => hk k (List.mem_cons_of_mem _ hk2)
    refine s_set (x := script.l.getD k.toNat 0) 5 nd (er_ixC (er_var 0) (er_var 4) k0 (getD_at k0 k1)) fun S4 g4 => ?_
    have g34 := g3.trans g4
    refine s_if (tr_cmp (cv_lt (er_len b_len (er_var 3)) (er_var 2))) (fun t S5 g5 => ?_) (fun t S5 g5 => s_end (s_next (.keep (.keep (.keep (.keep (.drop (.drop .nil)))))) ⟨xs, rfl, (gS.trans g34).trans g5, s2.trans (g34.trans g5).g, hl, hr⟩))
    have ht : (xs.length : Int) < many := of_decide_eq_true t
    refine s_if (tr_cmp (cv_ge (er_var 5) (er_pow er_int er_int ⟨by decide, by decide, by decide⟩))) (fun _ S6 g6 => ?_) (fun _ S6 g6 => ?_)
    · refine s_setV 3 nd (ev_cat (er_var 3) (ev_call cal_law_row (u := (script.l.getD k.toNat 0, k, many, ())) (ar_cons (er_var 5) (ar_cons (er_var 4) (ar_cons (er_var 2) ar_nil))) ⟨m0, m1⟩) fun y hy => sz _ (by have : y.length ≤ many.toNat := hy.1; omega)) fun S7 z g7 hz2 => s_end (s_end (s_next (.keep (.keep (.keep (.keep (.drop (.drop .nil)))))) ?_))
      obtain ⟨y, hy, rfl⟩ := hz2
      have : y.length ≤ many.toNat := hy.1
      exact ⟨xs ++ y, rfl, ((gS.trans g34).trans (g5.trans g6)).trans g7, s2.trans ((g34.trans (g5.trans g6)).trans g7).g, by rw [List.length_append]; omega, hr⟩
    · refine s_setV 3 nd (ev_cat (er_var 3) (ev_call cal_law_row (u := (script.l.getD k.toNat 0, k, 1, ())) (ar_cons (er_var 5) (ar_cons (er_var 4) (ar_cons er_int ar_nil))) ⟨(show (0 : Int) ≤ 1 by decide), (show (1 : Int) ≤ 100 by decide)⟩) fun y hy => sz _ (by have : y.length ≤ 1 := hy.1; omega)) fun S7 z g7 hz2 => s_end (s_end (s_next (.keep (.keep (.keep (.keep (.drop (.drop .nil)))))) ?_))
      obtain ⟨y, hy, rfl⟩ := hz2
      have : y.length ≤ 1 := hy.1
      exact ⟨xs ++ y, rfl, ((gS.trans g34).trans (g5.trans g6)).trans g7, s2.trans ((g34.trans (g5.trans g6)).trans g7).g, by rw [List.length_append]; omega, hr⟩
  · rintro Γ' S' ⟨xs, rfl, gS, _, hl, _⟩
    refine s_if (tr_cmp (cv_lt (er_len b_len (er_var 3)) (er_var 2))) (fun t S5 g5 => ?_) (fun t S5 g5 => s_end (fin xs S5 (gS.trans g5)))
    refine s_setV 3 nd (ev_cat (er_var 3) (ev_call cal_law_row (u := (lawCell script.l 0, 77, 14, ())) (ar_cons (er_call cal_law_cell (u := (script, 0, ())) (ar_cons (er_var 0) (ar_cons er_int ar_nil)) (show (0 : Int) ≤ 0 by decide)) (ar_cons er_int (ar_cons er_int ar_nil))) ⟨(show (0 : Int) ≤ 14 by decide), (show (14 : Int) ≤ 100 by decide)⟩) fun y hy => sz _ (by have : y.length ≤ 14 := hy.1; omega)) fun S7 z g7 _ => s_end (fin z S7 ((gS.trans g5).trans g7))
end
end Fl

set_option Elab.async false
set_option linter.all false
set_option maxRecDepth 100000
set_option maxHeartbeats 4000000
namespace Fl
open PySem PySem.Spec PyProof.Rows L2
def tiles8 : List Str := ["#", "+", ".", "A", "B", "C", "a", "b", "c"]
def tileRow : Str := "+.A.B.C.a.b..+AB"
theorem tileRow_all : ((List.range 16).all fun i => match tileRow.cps.toList[i]? with | some ch => decide ((⟨#[ch]⟩ : Str) ∈ tiles8) | none => false) = true := by decide +kernel
theorem tileRow_at {i : Nat} (h : i < 16) : ∃ ch, tileRow.cps.toList[i]? = some ch ∧ (⟨#[ch]⟩ : Str) ∈ tiles8 := by
  have q := List.all_eq_true.mp tileRow_all i (List.mem_range.mpr h)
  cases e : tileRow.cps.toList[i]? with
  | none => rw [e] at q; cases q
  | some ch => rw [e] at q; exact ⟨ch, rfl, of_decide_eq_true q⟩
section
variable [c : Ctx]
theorem cal_law_tile : Cal "_law_tile" 1 (Spc (fun a : Int × Int × Unit => 0 ≤ a.1 ∧ a.1 < 16) fun _ (y : Str) => y ∈ tiles8) := by
  refine mkCal (d := d_law_tile) i_law_tile sc_law_tile g_law_tile (fun f cdv A outer s S a Q E hp hX hq => ?_) (hb := fun _ _ _ _ _ _ us hl => match us, hl with | [_, _], _ => rfl)
  obtain ⟨v, sh, ⟨⟩⟩ := a
  obtain ⟨v0, v1⟩ : 0 ≤ v ∧ v < 16 := hp
  replace hq : ∀ S1 u (y : Str), Grow S S1 → Rp.rep S1.G u y → y ∈ tiles8 → Q u S1.H := hq
  show SB _ _ _ [some ⟨v⟩, some ⟨sh⟩] S
  refine s_if (tr_cmp (cv_lt (er_var 0) (er_var 1))) (fun t S1 g1 => ?_) (fun t S1 g1 => s_end ?_)
  · exact s_ret er_str fun S2 u g2 rv => hq S2 u _ (g1.trans g2) rv (by decide +kernel)
  · obtain ⟨ch, h1, h2⟩ := tileRow_at (i := v.toNat) (by omega)
    exact s_ret (er_ixS (s := tileRow) er_str (er_var 0) (by decide +kernel) v0 h1) fun S2 u g2 rv => hq S2 u _ (g1.trans g2) rv h2
end
end Fl

set_option Elab.async false
set_option linter.all false
set_option maxRecDepth 100000
set_option maxHeartbeats 4000000
namespace Fl
open PySem PySem.Spec PyProof.Rows L2
def besideB (x y : Int × Int) : Bool := decide ((x.1 - y.1) * (x.1 - y.1) + (x.2 - y.2) * (x.2 - y.2) = 1)
def Near100 (x : Int × Int) : Prop := 0 ≤ x.1 ∧ x.1 ≤ 100 ∧ 0 ≤ x.2 ∧ x.2 ≤ 100
section
variable [c : Ctx]
theorem cal_law_beside : Cal "_law_beside" 1 (Spf (fun a : (Int × Int) × (Int × Int) × Unit => Near100 a.1 ∧ Near100 a.2.1) fun a => besideB a.1 a.2.1) := by
  refine mkCal (d := d_law_beside) i_law_beside sc_law_beside g_law_beside (fun f cdv A outer s S a Q E hp hX hq => ?_) (hb := fun _ _ _ _ _ _ us hl => match us, hl with | [_, _], _ => rfl)
  obtain ⟨x, y, ⟨⟩⟩ := a
  obtain ⟨⟨a1, a2, a3, a4⟩, b1, b2, b3, b4⟩ : Near100 x ∧ Near100 y := hp
  replace hq : ∀ S1 u z, Grow S S1 → Rp.rep S1.G u z → z = besideB x y → Q u S1.H := hq
  have nd := sc_law_beside.nd
  show SB _ _ _ [some ⟨x⟩, some ⟨y⟩, none, none] S
  refine s_set (x := x.1 - y.1) 2 nd (er_sub (er_fst (er_var 0)) (er_fst (er_var 1))) fun S1 g1 => ?_
  refine s_set (x := x.2 - y.2) 3 nd (er_sub (er_snd (er_var 0)) (er_snd (er_var 1))) fun S2 g2 => ?_
  exact s_ret (er_cmp (cv_eqI (er_add (er_mul (er_var 2) (er_var 2) (.inl ⟨by omega, by omega⟩)) (er_mul (er_var 3) (er_var 3) (.inl ⟨by omega, by omega⟩))) er_int)) fun S3 u g3 rv => hq S3 u _ ((g1.trans g2).trans g3) rv rfl
end
end Fl

set_option Elab.async false
set_option linter.all false
set_option maxRecDepth 100000
set_option maxHeartbeats 4000000
namespace Fl
open PySem PySem.Spec PyProof.Rows L2
def caps : Str := "ABCDEFGHIJKLMNOPQRSTUVWXYZ"
def smalls : Str := "abcdefghijklmnopqrstuvwxyz"
def chAt (s : Str) (i : Int) : Str := ⟨#[s.cps.toList.getD i.toNat 0]⟩
def stationOf (t : Str) : Option Int := (rangeI 0 26).find? fun n => decide (t = chAt caps n) || decide (t = chAt smalls n)
theorem chAt_get {s : Str} {i : Int} (h0 : 0 ≤ i) (h1 : i < (s.cps.toList.length : Int)) : s.cps.toList[i.toNat]? = some (s.cps.toList.getD i.toNat 0) := getD_at h0 h1
theorem caps_len : caps.cps.toList.length = 26 := by decide +kernel
theorem smalls_len : smalls.cps.toList.length = 26 := by decide +kernel
section
variable [c : Ctx]
theorem cal_station_of : Cal "station_of" 1 (Spf (fun _ : Str × Unit => True) fun a => stationOf a.1) := by
  refine mkCal (d := d_station_of) i_station_of sc_station_of g_station_of (fun f cdv A outer s S a Q E hp hX hq => ?_) (hb := fun _ _ _ _ _ _ us hl => match us, hl with | [_], _ => rfl)
  obtain ⟨t, ⟨⟩⟩ := a
  replace hq : ∀ S1 u z, Grow S S1 → Rp.rep S1.G u z → z = stationOf t → Q u S1.H := hq
  have nd := sc_station_of.nd
  obtain ⟨t1, k1⟩ := k_CAPITALS (c := c)
  obtain ⟨t2, k2⟩ := k_SMALL_LETTERS (c := c)
  show SB _ _ _ [some ⟨t⟩, none] S
  refine s_search (α := Int) (xs := rangeI 0 26) (fun n => decide (t = chAt caps n) || decide (t = chAt smalls n)) PassesOwn.never rfl (it_range (j := 26) b_range (er_lens (s := caps) b_len (er_gstr k1) (by decide +kernel)) (by decide)) (bg_name 1 nd) (fun x => .keep (.drop .nil)) (fun n hn S2 g2 => ?_) (fun n hn hf S2 g2 D' hD => ?_) (fun hf S2 g2 => ?_)
  · have hm := mem_rangeI.mp hn
    exact tr_or (tr_cmp (cv_eqS (er_var 0) (er_ixS (s := caps) (er_gstr k1) (er_var 1) (by decide +kernel) (by omega) (chAt_get (by omega) (by rw [caps_len]; omega))))) fun _ => tr_cmp (cv_eqS (er_var 0) (er_ixS (s := smalls) (er_gstr k2) (er_var 1) (by decide +kernel) (by omega) (chAt_get (by omega) (by rw [smalls_len]; omega))))
  · exact s_ret (er_some (er_var 1)) fun S3 v g3 r => by rw [hD]; exact hq S3 v _ (g2.trans g3) r hf.symm
  · exact s_ret (x := (none : Option Int)) er_non fun S3 v g3 r => hq S3 v _ (g2.trans g3) r hf.symm
end
end Fl

set_option Elab.async false
set_option linter.all false
set_option maxRecDepth 100000
set_option maxHeartbeats 4000000
namespace Fl
open PySem PySem.Spec PyProof.Rows L2
def isCell (t : Str) : Bool := !decide (t = "#")
section
variable [c : Ctx]
theorem cal_is_cell : Cal "is_cell" 1 (Spf (fun _ : Str × Unit => True) fun a => isCell a.1) := by
  refine mkCal (d := d_is_cell) i_is_cell sc_is_cell g_is_cell (fun f cdv A outer s S a Q E hp hX hq => ?_) (hb := fun _ _ _ _ _ _ us hl => match us, hl with | [_], _ => rfl)
  obtain ⟨t, ⟨⟩⟩ := a
  replace hq : ∀ S1 u z, Grow S S1 → Rp.rep S1.G u z → z = isCell t → Q u S1.H := hq
  show SB _ _ _ [some ⟨t⟩] S
  exact s_ret (er_cmp (cv_neS (er_var 0) er_str)) fun S3 v g3 r => hq S3 v _ g3 r rfl
end
end Fl

set_option Elab.async false
set_option linter.all false
set_option maxRecDepth 100000
set_option maxHeartbeats 4000000
namespace Fl
open PySem PySem.Spec PyProof.Rows L2
section
variable {α : Type} [Rp α] {X : Cx} {e a b o : Expr} {es : List Expr} {Γ : Gm} {S : HS} {pos apos p2 : Pos} {s t : Str} {i j : Int} {ch : Nat}
/-! ### texts made of parts -/
def catAll (acc : Str) : List Str → Str
  | [] => acc
  | z :: zs => catAll (acc ++ z) zs
theorem len_app (x y : Str) : (x ++ y).length = x.length + y.length := by
  show (x.cps ++ y.cps).size = x.cps.size + y.cps.size
  exact Array.size_append
/-- the parts of an f-string -/
def JR (X : Cx) (es : List Expr) (Γ : Gm) (S : HS) (ss : List Str) : Prop := ∀ σ, Slots S.G σ Γ → ∀ S1, Grow S S1 → ∀ (acc : Str) (Q : Str → Hp → Prop), acc.length + (ss.map (·.length)).sum ≤ sizeLine →
  (∀ S2, Grow S1 S2 → Q (catAll acc ss) S2.H) → tJs (es.map (wE X)) acc σ S1.H Q
theorem js_nil : JR X [] Γ S [] := fun σ hσ S1 g acc Q hz k => k S1 (.refl _)
theorem js_cons {ss : List Str} (h : ER X e Γ S s) (hr : JR X es Γ S ss) : JR X (e :: es) Γ S (s :: ss) := fun σ hσ S1 g acc Q hz k => by
  rw [List.map_cons, List.sum_cons] at hz
  exact h σ hσ S1 g _ fun S2 v g2 r => ⟨s, r, by rw [len_app]; omega, hr σ hσ S2 (g.trans g2) (acc ++ s) Q (by rw [len_app]; omega) fun S3 g3 => k S3 (g2.trans g3)⟩
theorem pj_w : ∀ es : List Expr, PJ X es (es.map (wE X))
  | [] => .nil
  | _ :: r => .cons pe_w (pj_w r)
theorem er_joined {v1 v2 : Expr} {rest : List Expr} {ss : List Str} (h : JR X (v1 :: v2 :: rest) Γ S ss) (hz : (ss.map (·.length)).sum ≤ sizeLine) : ER X (.JoinedStr (v1 :: v2 :: rest) pos) Γ S (catAll Str.empty ss) := fun σ hσ S1 g Q k =>
  w_pe (pe_joined (pj_w _)) (h σ hσ S1 g Str.empty _ (by show 0 + _ ≤ _; omega) fun S2 g2 => k S2 _ g2 rfl)
theorem er_fmtS (h : ER X e Γ S s) (hz : s.length ≤ sizeLine) : ER X (.FormattedValue e (-1) none pos) Γ S s := fun σ hσ S1 g Q k =>
  w_pe (pe_fmt pe_w) (h σ hσ S1 g _ fun S2 v g2 r => .inl ⟨s, r, hz, k S2 _ g2 rfl⟩)
theorem er_fmtI (h : ER X e Γ S i) (hz : i.natAbs.log2 < 1920) : ER X (.FormattedValue e (-1) none pos) Γ S (Str.ofString (toString i)) := fun σ hσ S1 g Q k =>
  w_pe (pe_fmt pe_w) (h σ hσ S1 g _ fun S2 v g2 r => .inr ⟨i, r, hz, k S2 _ g2 rfl⟩)
/-! ### methods of texts -/
theorem er_split (h : ER X o Γ S s) (he : ER X e Γ S t) (ht : (t.length == 0) = false) (hz : s.length + 2 ≤ sizeLine) (hs : starEach [e] X.env = [(false, eval e X.env)] := by rfl) (hbase : attributeBase o "split" X.env (eval o X.env) = eval o X.env := by rfl) (hline : (apos.endLine == pos.line) = true := by rfl) :
    ER X (.Call (.Attribute o "split" apos) [e] [] pos) Γ S (Txt.split s t) := fun σ hσ S1 g Q k =>
  w_pe (pe_split pe_w pe_w hs hbase hline) (h σ hσ S1 g _ fun S2 v g2 r => ⟨⟨s, r⟩, he σ hσ S2 (g.trans g2) _ fun S3 u g3 r3 => ⟨s, t, r, by rw [show u = V.str t from r3], ht, hz, fun p hp => k (S3.new p _ hp) _ ((g2.trans g3).trans (.new S3 p _ hp)) ⟨p, _, rfl, HS.new_at, reps.str_of _⟩⟩⟩)
theorem er_join {ys : List Str} (h : ER X o Γ S s) (he : ER X e Γ S ys) (hz : (ys.map (·.length)).sum + ys.length * s.length ≤ 16777216) (hs : starEach [e] X.env = [(false, eval e X.env)] := by rfl) (hbase : attributeBase o "join" X.env (eval o X.env) = eval o X.env := by rfl) (hline : (apos.endLine == pos.line) = true := by rfl) :
    ER X (.Call (.Attribute o "join" apos) [e] [] pos) Γ S (Txt.join s ys) := fun σ hσ S1 g Q k =>
  w_pe (pe_join pe_w pe_w hs hbase hline) (h σ hσ S1 g _ fun S2 v g2 r => ⟨⟨s, r⟩, he σ hσ S2 (g.trans g2) _ fun S3 u g3 ⟨q, vs, e1, e2, r3⟩ => ⟨s, q, ys, r, by rw [e1], .inl (SqL.of (by rw [← r3.str]; exact S3.le _ _ e2)), hz, k S3 _ (g2.trans g3) rfl⟩⟩)
theorem er_upper (h : ER X o Γ S s) (hz : s.length ≤ 5592405) (hbase : attributeBase o "upper" X.env (eval o X.env) = eval o X.env := by rfl) (hline : (apos.endLine == pos.line) = true := by rfl) :
    ER X (.Call (.Attribute o "upper" apos) [] [] pos) Γ S (Txt.upper s) := fun σ hσ S1 g Q k => w_pe (pe_upper pe_w hbase hline) (h σ hσ S1 g _ fun S2 v g2 r => ⟨⟨s, r⟩, s, r, rfl, hz, k S2 _ g2 rfl⟩)
theorem er_lower (h : ER X o Γ S s) (hz : s.length ≤ 5592405) (hbase : attributeBase o "lower" X.env (eval o X.env) = eval o X.env := by rfl) (hline : (apos.endLine == pos.line) = true := by rfl) :
    ER X (.Call (.Attribute o "lower" apos) [] [] pos) Γ S (Txt.lower s) := fun σ hσ S1 g Q k => w_pe (pe_lower pe_w hbase hline) (h σ hσ S1 g _ fun S2 v g2 r => ⟨⟨s, r⟩, s, r, rfl, hz, k S2 _ g2 rfl⟩)
theorem er_islower (h : ER X o Γ S s) (hbase : attributeBase o "islower" X.env (eval o X.env) = eval o X.env := by rfl) (hline : (apos.endLine == pos.line) = true := by rfl) :
    ER X (.Call (.Attribute o "islower" apos) [] [] pos) Γ S (Txt.islower s) := fun σ hσ S1 g Q k => w_pe (pe_m0 F.slot_str_islower F.type_str_islower mt_islower pe_w hbase hline) (h σ hσ S1 g _ fun S2 v g2 r => ⟨⟨s, r⟩, s, r, rfl, trivial, k S2 _ g2 rfl⟩)
theorem er_index {n : Nat} {rest : List Nat} (h : ER X o Γ S s) (he : ER X e Γ S t) (hi : Builtin.Str.occurrences s t 0 s.length 1 = n :: rest) (hs : starEach [e] X.env = [(false, eval e X.env)] := by rfl) (hbase : attributeBase o "index" X.env (eval o X.env) = eval o X.env := by rfl) (hline : (apos.endLine == pos.line) = true := by rfl) :
    ER X (.Call (.Attribute o "index" apos) [e] [] pos) Γ S (n : Int) := fun σ hσ S1 g Q k =>
  w_pe (pe_m1 F.slot_str_index F.type_str_index mt_sindex pe_w pe_w hs hbase hline) (h σ hσ S1 g _ fun S2 v g2 r => ⟨⟨s, r⟩, he σ hσ S2 (g.trans g2) _ fun S3 u g3 r3 => ⟨s, t, n, rest, r, by rw [show u = V.str t from r3], hi, k S3 _ (g2.trans g3) rfl⟩⟩)
/-- int(text) -/
theorem er_intS {n : Int} {p : Pos} (hm : X.mg "int" = none) (ha : ER X a Γ S s) (hn : PySem.intText? s = some n) (hz : s.length ≤ 640) (hg : Gl X "int" := by rfl) (hs : starEach [a] X.env = [(false, eval a X.env)] := by rfl) : ER X (.Call (.Name "int" p) [a] [] pos) Γ S n :=
  er_t1 call_int_str hm (by decide +kernel) ha (fun S2 v Q r k => ⟨s, n, by rw [show v = V.str s from r], hn, hz, k S2 _ (.refl _) rfl⟩) (by decide) (by decide) hg hs
/-! ### in, of texts -/
def isIn (x y : Str) : Bool := !(Builtin.Str.occurrences y x 0 y.length 1).isEmpty
theorem cv_inS (ha : ER X a Γ S s) (hb : ER X b Γ S t) : CV X .In a b Γ S (isIn s t) := cv_of op_in_str ha hb fun S2 u w Q ru rb k => ⟨s, t, ru, rb, k⟩
theorem cv_niS (ha : ER X a Γ S s) (hb : ER X b Γ S t) : CV X .NotIn a b Γ S (!isIn s t) := cv_of op_notIn_str ha hb fun S2 u w Q ru rb k => ⟨s, t, ru, rb, k⟩
theorem cv_inC (ha : ER X a Γ S (⟨#[ch]⟩ : Str)) (hb : ER X b Γ S t) : CV X .In a b Γ S (decide (ch ∈ t.cps.toList)) := cv_of op_in_sign ha hb fun S2 u w Q ru rb k => ⟨ch, t, ru, rb, k⟩
theorem cv_niC (ha : ER X a Γ S (⟨#[ch]⟩ : Str)) (hb : ER X b Γ S t) : CV X .NotIn a b Γ S (!decide (ch ∈ t.cps.toList)) := cv_of op_notIn_sign ha hb fun S2 u w Q ru rb k => ⟨ch, t, ru, rb, k⟩
theorem in_strs (x : Str) : ∀ xs : List Str, inV (.str x) (xs.map V.str) = decide (x ∈ xs) := fun xs => by
  unfold inV
  rw [List.any_map]
  induction xs with
  | nil => simp
  | cons y r ih =>
    rw [List.any_cons, ih]
    have e : ((fun z => eqV z (V.str x)) ∘ V.str) y = (y == x) := rfl
    rw [e]
    by_cases h : x = y
    · subst h
      simp
    · have h2 : ¬ y = x := fun z => h z.symm
      simp [h, h2]
theorem flat_strs (xs : List Str) : (xs.map V.str).all flatV = true := by
  rw [List.all_map]
  exact List.all_eq_true.mpr fun _ _ => rfl
theorem cv_inLS {xs : List Str} (ha : ER X a Γ S s) (hb : ER X b Γ S xs) : CV X .In a b Γ S (decide (s ∈ xs)) := cv_of op_in_seq ha hb fun S2 u w Q ru ⟨p, vs, e, h, r⟩ k => by
  cases ru
  have e2 := r.str
  subst e2
  exact ⟨p, _, e, .inl (SqL.of (S2.le _ _ h)), rfl, flat_strs xs, by rw [if_neg Bool.false_ne_true, in_strs]; exact k⟩
theorem cv_niLS {xs : List Str} (ha : ER X a Γ S s) (hb : ER X b Γ S xs) : CV X .NotIn a b Γ S (!decide (s ∈ xs)) := cv_of op_notIn_seq ha hb fun S2 u w Q ru ⟨p, vs, e, h, r⟩ k => by
  cases ru
  have e2 := r.str
  subst e2
  exact ⟨p, _, e, .inl (SqL.of (S2.le _ _ h)), rfl, flat_strs xs, by rw [if_pos rfl, in_strs]; exact k⟩
/-- in a tuple of texts -/
theorem cv_inTS {xs : List Str} (ha : ER X a Γ S s) (hb : ER X b Γ S (⟨xs⟩ : Tpl Str)) : CV X .In a b Γ S (decide (s ∈ xs)) := cv_of op_in_seq ha hb fun S2 u w Q ru ⟨p, vs, e, h, r⟩ k => by
  cases ru
  have e2 := r.str
  have e3 : vs = xs.map V.str := e2
  subst e3
  exact ⟨p, _, e, .inr (SqT.of (S2.le _ _ h)), rfl, flat_strs xs, by rw [if_neg Bool.false_ne_true, in_strs]; exact k⟩
/-- in a tuple of the module -/
theorem cv_inG {k0 : Nat} [c : Ctx] [hX : InC k0 X] {xs : List Str} {nm : Str} {d : Addr} {npos : Pos} (hk : ∀ H : Hp, SqT c.K H d (xs.map V.str)) (hm : c.mg nm = some (.ref d)) (ha : ER X a Γ S s) (hg : Gl X nm := by rfl) (hd : (nm == ("__debug__" : Str)) = false := by decide) : CV X .In a (.Name nm npos) Γ S (decide (s ∈ xs)) :=
  cv_of (x := s) (y := (⟨d⟩ : Adr)) op_in_seq ha (fun σ hσ S1 g Q k => w_pe (pe_glob (v := .ref d) hg (by rw [hX.mg]; exact hm) rfl hd) (k S1 _ (.refl _) rfl)) fun S2 u w Q ru rb k => by
    cases ru
    exact ⟨d, _, rb, .inr (by rw [hX.K]; exact hk _), rfl, flat_strs xs, by rw [if_neg Bool.false_ne_true, in_strs]; exact k⟩
end
/-! ### lines of events -/
def evWords : List Str := ["go", "fail", "tow"]
def evParts : Ev → List Str
  | .ord a b => ["order", chAt caps a, chAt caps b]
  | .one k r => [k, Str.ofString (toString r)]
def lineOf (e : Ev) : Str := Txt.join " " (evParts e)
/-- the events of at most 3 stations and 4 robots -/
def ev21 : List Ev := ([0, 1, 2].flatMap fun a => [0, 1, 2].map fun b => Ev.ord a b) ++ ([("go" : Str), "fail", "tow"].flatMap fun k => [0, 1, 2, 3].map fun r => Ev.one k r)
def EvS (e : Ev) : Prop := EvIn 3 4 e
theorem i3 {a : Int} (h0 : 0 ≤ a) (h1 : a < 3) : a = 0 ∨ a = 1 ∨ a = 2 := by omega
theorem i4 {a : Int} (h0 : 0 ≤ a) (h1 : a < 4) : a = 0 ∨ a = 1 ∨ a = 2 ∨ a = 3 := by omega
theorem ev21_in {e : Ev} (h : EvS e) : e ∈ ev21 := by
  cases e with
  | ord a b =>
    obtain ⟨h1, h2, h3, h4⟩ : 0 ≤ a ∧ a < 3 ∧ 0 ≤ b ∧ b < 3 := h
    refine List.mem_append_left _ (List.mem_flatMap.mpr ⟨a, ?_, List.mem_map.mpr ⟨b, ?_, rfl⟩⟩)
    · rcases i3 h1 h2 with rfl | rfl | rfl <;> simp
    · rcases i3 h3 h4 with rfl | rfl | rfl <;> simp
  | one k r =>
    obtain ⟨hk, h3, h4⟩ : (k = "fail" ∨ k = "tow" ∨ k = "go") ∧ 0 ≤ r ∧ r < 4 := h
    refine List.mem_append_right _ (List.mem_flatMap.mpr ⟨k, ?_, List.mem_map.mpr ⟨r, ?_, rfl⟩⟩)
    · rcases hk with rfl | rfl | rfl <;> simp
    · rcases i4 h3 h4 with rfl | rfl | rfl | rfl <;> simp
theorem all21 {p : Ev → Bool} (h : ev21.all p = true) {e : Ev} (he : EvS e) : p e = true := List.all_eq_true.mp h e (ev21_in he)
end Fl

set_option Elab.async false
set_option linter.all false
set_option maxRecDepth 100000
set_option maxHeartbeats 4000000
namespace Fl
open PySem PySem.Spec PyProof.Rows L2
def figs : Str := "0123456789"
def idxOf (z : Str) : Int := ((Builtin.Str.occurrences caps z 0 caps.length 1).headD 0 : Nat)
def readParts : List Str → Option Ev
  | [k, n] => (PySem.intText? n).map (Ev.one k)
  | [_, x, y] => some (.ord (idxOf x) (idxOf y))
  | _ => none
/-- the text of a small number -/
def numS (r : Int) : Str := ⟨#[48 + r.toNat]⟩
theorem numS_eq {r : Int} (h0 : 0 ≤ r) (h1 : r < 4) : Str.ofString (toString r) = numS r := by
  rcases i4 h0 h1 with rfl | rfl | rfl | rfl <;> decide +kernel
theorem readParts_ok {e : Ev} (h : EvS e) : readParts (evParts e) = some e := of_decide_eq_true (all21 (p := fun e => decide (readParts (evParts e) = some e)) (by decide +kernel) h)
theorem tl_free {e : Ev} (h : EvS e) : ∀ p ∈ evParts e, (32 ∉ TL.tl p) ∧ (10 ∉ TL.tl p) := fun p hp => by
  have q := all21 (p := fun e => (evParts e).all fun p => decide (32 ∉ TL.tl p) && decide (10 ∉ TL.tl p)) (by decide +kernel) h
  have q2 := List.all_eq_true.mp q p hp
  exact ⟨of_decide_eq_true (Bool.and_eq_true_iff.mp q2).1, of_decide_eq_true (Bool.and_eq_true_iff.mp q2).2⟩
theorem split_line {e : Ev} (h : EvS e) : Txt.split (lineOf e) " " = evParts e := TL.split_join (s := 32) (S := []) (by decide +kernel) (by decide +kernel) (by cases e <;> exact fun z => nomatch z) fun p hp => (tl_free h p hp).1
theorem line_free {e : Ev} (h : EvS e) : 10 ∉ TL.tl (lineOf e) := of_decide_eq_true (all21 (p := fun e => decide (10 ∉ TL.tl (lineOf e))) (by decide +kernel) h)
theorem line_len {e : Ev} (h : EvS e) : (lineOf e).length ≤ 20 := of_decide_eq_true (all21 (p := fun e => decide ((lineOf e).length ≤ 20)) (by decide +kernel) h)
theorem line_ne {e : Ev} (h : EvS e) : (lineOf e).length ≠ 0 := of_decide_eq_true (all21 (p := fun e => decide ((lineOf e).length ≠ 0)) (by decide +kernel) h)
def lineBits : Ev → List Str
  | .ord a b => ["order ", chAt caps a, " ", chAt caps b]
  | .one k r => [k, " ", Str.ofString (toString r)]
theorem line_cat {e : Ev} (h : EvS e) : catAll Str.empty (lineBits e) = lineOf e :=
  of_decide_eq_true (all21 (p := fun e => decide (catAll Str.empty (lineBits e) = lineOf e)) (by decide +kernel) h)
theorem tr_eq {X : Cx} {e : Expr} {Γ : Gm} {S : HS} {s t : Bool} (h : TR X e Γ S s) (he : s = t) : TR X e Γ S t := he ▸ h
theorem er_eq {α : Type} [Rp α] {X : Cx} {e : Expr} {Γ : Gm} {S : HS} {s t : α} (h : ER X e Γ S s) (he : s = t) : ER X e Γ S t := he ▸ h
section
variable [c : Ctx]
theorem words_at : ∀ H : Hp, SqT c.K H (He.ga c.K "WORDS") (evWords.map V.str) := fun H => by
  have h := moreA (c := c)
  unfold exA at h
  exact He.tupB_ok (He.ba (He.ba h).1).2 H
theorem cal_write_event : Cal "write_event" 1 (Spf (fun a : Ev × Unit => EvS a.1) fun a => lineOf a.1) := by
  refine mkCal (d := d_write_event) i_write_event sc_write_event g_write_event (fun f cdv A outer s S a Q E hp hX hq => ?_) (hb := fun _ _ _ _ _ _ us hl => match us, hl with | [_], _ => rfl)
  obtain ⟨ev, ⟨⟩⟩ := a
  have he : EvS ev := hp
  replace hq : ∀ S1 v z, Grow S S1 → Rp.rep S1.G v z → z = lineOf ev → Q v S1.H := hq
  obtain ⟨t1, k1⟩ := k_LETTERS_log (c := c)
  show SB _ _ _ [some ⟨ev⟩] S
  refine s_if (tr_cmp (cv_eqS (er_ev0 (er_var 0)) er_str)) (fun t S1 g1 => ?_) (fun t S1 g1 => s_end ?_)
  · have hk : ev.kind = "order" := of_decide_eq_true t
    cases ev with
    | one k r =>
      obtain ⟨hk2, _⟩ : (k = "fail" ∨ k = "tow" ∨ k = "go") ∧ _ := he
      have hk : k = "order" := hk
      rcases hk2 with rfl | rfl | rfl <;> exact absurd hk (by decide)
    | ord x y =>
      obtain ⟨a0, a1, b0, b1⟩ : 0 ≤ x ∧ x < 3 ∧ 0 ≤ y ∧ y < 3 := he
      exact s_ret (er_joined (js_cons er_str (js_cons (er_fmtS (er_ixS (s := caps) (i := x) (er_gstr k1) (er_ev1 (e := .ord x y) (er_var 0)) (by decide +kernel) a0 (chAt_get a0 (by rw [caps_len]; omega))) (by show 1 ≤ sizeLine; decide))
        (js_cons er_str (js_cons (er_fmtS (er_ixS (s := caps) (er_gstr k1) (er_ev2 (x := x) (y := y) (er_var 0)) (by decide +kernel) b0 (chAt_get b0 (by rw [caps_len]; omega))) (by show 1 ≤ sizeLine; decide)) js_nil)))) (by show 6 + (1 + (1 + (1 + 0))) ≤ sizeLine; decide)) fun S2 v g2 rv =>
        hq S2 v _ (g1.trans g2) rv (line_cat (e := .ord x y) ⟨a0, a1, b0, b1⟩)
  · have hk : ¬ ev.kind = "order" := of_decide_eq_false t
    cases ev with
    | ord x y => exact absurd rfl hk
    | one k r =>
      have he2 := he
      obtain ⟨hk2, r0, r1⟩ : (k = "fail" ∨ k = "tow" ∨ k = "go") ∧ 0 ≤ r ∧ r < 4 := he
      have kl : k.length ≤ 10 := by rcases hk2 with rfl | rfl | rfl <;> decide
      have nl : (Str.ofString (toString r)).length = 1 := by rw [numS_eq r0 r1]; rfl
      have z640 : 100 ≤ sizeLine := by decide
      exact s_ret (er_joined (js_cons (er_fmtS (er_ev0 (e := .one k r) (er_var 0)) (by show k.length ≤ sizeLine; omega)) (js_cons er_str (js_cons (er_fmtI (er_ev1 (e := .one k r) (er_var 0)) (by show r.natAbs.log2 < 1920; rcases i4 r0 r1 with rfl | rfl | rfl | rfl <;> decide)) js_nil)))
        (by show k.length + (1 + ((Str.ofString (toString r)).length + 0)) ≤ sizeLine; omega)) fun S2 v g2 rv => hq S2 v _ (g1.trans g2) rv (line_cat (e := .one k r) he2)
theorem figs_at {r : Int} (r0 : 0 ≤ r) (r1 : r < 4) : decide (48 + r.toNat ∈ figs.cps.toList) = true := by
  rcases i4 r0 r1 with rfl | rfl | rfl | rfl <;> decide +kernel
theorem num_read {r : Int} (r0 : 0 ≤ r) (r1 : r < 4) : PySem.intText? (numS r) = some r := by
  rcases i4 r0 r1 with rfl | rfl | rfl | rfl <;> decide +kernel
theorem cal_read_number : Cal "read_number" 1 (Spf (fun a : Str × Unit => ∃ r : Int, 0 ≤ r ∧ r < 4 ∧ a.1 = numS r) fun a => PySem.intText? a.1) := by
  refine mkCal (d := d_read_number) i_read_number sc_read_number g_read_number (fun f cdv A outer s S a Q E hp hX hq => ?_) (hb := fun _ _ _ _ _ _ us hl => match us, hl with | [_], _ => rfl)
  obtain ⟨tx, ⟨⟩⟩ := a
  obtain ⟨r, r0, r1, rfl⟩ : ∃ r : Int, 0 ≤ r ∧ r < 4 ∧ tx = numS r := hp
  replace hq : ∀ S1 v (z : Option Int), Grow S S1 → Rp.rep S1.G v z → z = PySem.intText? (numS r) → Q v S1.H := hq
  have nd := sc_read_number.nd
  obtain ⟨t1, k1⟩ := k_FIGURES (c := c)
  have z100 : 100 ≤ sizeLine := by decide
  have hl1 : (numS r).length = 1 := rfl
  show SB _ _ _ [some ⟨numS r⟩, none] S
  refine s_if (tr_not (tr_chain2 er_int (er_lens b_len (er_var 0) (by rw [hl1]; omega)) er_int)) (fun t S1 g1 => ?_) (fun t S1 g1 => s_end ?_)
  · rw [hl1] at t
    exact absurd t (by decide)
  refine s_search (α := Str) (xs := signs (numS r)) (fun _ => false) PassesOwn.never rfl (it_str (er_var 0)) (bg_name 1 nd) (fun x => .keep (.drop .nil)) (fun x hx S2 g2 => ?_) (fun x hx hf S2 g2 D' hD => ?_) (fun hf S2 g2 => ?_)
  · have e : x = numS r := by simpa [signs, numS] using hx
    subst e
    exact tr_eq (tr_cmp (cv_niC (ch := 48 + r.toNat) (t := figs) (er_var 1) (er_gstr k1))) (by rw [figs_at r0 r1]; rfl)
  · have := List.find?_some hf
    cases this
  · refine s_if (tr_and (p2 := default) (s := false) (t := false) (tr_cmp (cv_gt (er_lens (s := numS r) b_len (er_var 0) (by rw [hl1]; omega)) er_int)) fun t => nomatch t) (t := false) (fun t S3 g3 => nomatch t) (fun t S3 g3 => s_end ?_)
    exact s_ret (er_some (er_intS b_int (er_var 0) (num_read r0 r1) (by rw [hl1]; omega))) fun S4 v g4 rv => hq S4 v _ (((g1.trans g2).trans g3).trans g4) rv (num_read r0 r1).symm
end
end Fl

set_option Elab.async false
set_option linter.all false
set_option maxRecDepth 100000
set_option maxHeartbeats 4000000
namespace Fl
open PySem PySem.Spec PyProof.Rows L2
def okLet (z : Str) : Bool := match z.cps.toList with
  | [ch] => decide (ch ∈ caps.cps.toList) && !(Builtin.Str.occurrences caps z 0 caps.length 1).isEmpty
  | _ => false
theorem let_ok {a : Int} (h0 : 0 ≤ a) (h1 : a < 3) : okLet (chAt caps a) = true := by
  rcases i3 h0 h1 with rfl | rfl | rfl <;> decide +kernel
theorem okLet_one {z : Str} (h : okLet z = true) : ∃ ch, z = ⟨#[ch]⟩ ∧ ch ∈ caps.cps.toList ∧ ∃ n rest, Builtin.Str.occurrences caps z 0 caps.length 1 = n :: rest ∧ idxOf z = (n : Int) := by
  obtain ⟨cps⟩ := z
  obtain ⟨l⟩ := cps
  unfold okLet at h
  cases l with
  | nil => cases h
  | cons ch l =>
    cases l with
    | cons _ _ => cases h
    | nil =>
      obtain ⟨h1, h2⟩ := Bool.and_eq_true_iff.mp (show (decide (ch ∈ caps.cps.toList) && !(Builtin.Str.occurrences caps ⟨⟨[ch]⟩⟩ 0 caps.length 1).isEmpty) = true from h)
      refine ⟨ch, rfl, of_decide_eq_true h1, ?_⟩
      cases e : Builtin.Str.occurrences caps ⟨⟨[ch]⟩⟩ 0 caps.length 1 with
      | nil => rw [e] at h2; cases h2
      | cons n rest => exact ⟨n, rest, rfl, by unfold idxOf; rw [e]; rfl⟩
section
variable [c : Ctx]
theorem cal_read_order : Cal "read_order" 1 (Spf (fun a : List Str × Unit => ∃ x y, okLet x = true ∧ okLet y = true ∧ a.1 = [x, y]) fun a => (some (Ev.ord (idxOf (a.1.getD 0 "")) (idxOf (a.1.getD 1 ""))) : Option Ev)) := by
  refine mkCal (d := d_read_order) i_read_order sc_read_order g_read_order (fun f cdv A outer s S a Q E hp hX hq => ?_) (hb := fun _ _ _ _ _ _ us hl => match us, hl with | [_], _ => rfl)
  obtain ⟨ps, ⟨⟩⟩ := a
  obtain ⟨x, y, hx, hy, rfl⟩ : ∃ x y, okLet x = true ∧ okLet y = true ∧ ps = [x, y] := hp
  replace hq : ∀ S1 v (z : Option Ev), Grow S S1 → Rp.rep S1.G v z → z = some (.ord (idxOf x) (idxOf y)) → Q v S1.H := hq
  have nd := sc_read_order.nd
  obtain ⟨t1, k1⟩ := k_LETTERS_log (c := c)
  have z100 : 100 ≤ sizeLine := by decide
  show SB _ _ _ [some ⟨[x, y]⟩, none] S
  refine s_search (α := Str) (xs := [x, y]) (fun _ => false) PassesOwn.never rfl (it_list (er_var 0)) (bg_name 1 nd) (fun x => .keep (.drop .nil)) (fun z hz S2 g2 => ?_) (fun z hz hf S2 g2 D' hD => ?_) (fun hf S2 g2 => ?_)
  · have hzo : okLet z = true := by
      rcases List.mem_cons.mp hz with rfl | hz
      · exact hx
      · rw [List.mem_singleton.mp hz]; exact hy
    obtain ⟨ch, rfl, hc, _⟩ := okLet_one hzo
    have q1 : (!decide ((((⟨#[ch]⟩ : Str).length : Nat) : Int) = 1)) = false := rfl
    have q2 : (!decide (ch ∈ caps.cps.toList)) = false := by rw [decide_eq_true hc]; rfl
    exact tr_eq (tr_or (tr_cmp (cv_neI (er_lens b_len (er_var 1) (by show 1 ≤ sizeLine; omega)) er_int)) (fun _ => tr_cmp (cv_niC (ch := ch) (t := caps) (er_var 1) (er_gstr k1)))) (by rw [q1, q2]; rfl)
  · cases List.find?_some hf
  · obtain ⟨_, _, _, n1, r1, e1, f1⟩ := okLet_one hx
    obtain ⟨_, _, _, n2, r2, e2, f2⟩ := okLet_one hy
    rw [f1, f2] at hq
    exact s_ret (er_some (er_evOrd er_str (er_index (s := caps) (er_gstr k1) (er_ix (x := x) (er_var 0) er_int (by decide) rfl) e1) (er_index (s := caps) (er_gstr k1) (er_ix (x := y) (er_var 0) er_int (by decide) rfl) e2))) fun S4 v g4 rv => hq S4 v _ (g2.trans g4) rv rfl
theorem cut1 {α : Type} (x : α) (xs : List α) : cutL (x :: xs) (some 1) none = xs := by
  rw [cut_from1]
  rfl
theorem cal_read_event : Cal "read_event" 2 (Spf (fun a : Str × Unit => ∃ e, EvS e ∧ a.1 = lineOf e) fun a => readParts (Txt.split a.1 " ")) := by
  refine mkCal (d := d_read_event) i_read_event sc_read_event g_read_event (fun f cdv A outer s S a Q E hp hX hq => ?_) (hb := fun _ _ _ _ _ _ us hl => match us, hl with | [_], _ => rfl)
  obtain ⟨ln, ⟨⟩⟩ := a
  obtain ⟨ev, he, rfl⟩ : ∃ e, EvS e ∧ ln = lineOf e := hp
  have hs := split_line he
  replace hq : ∀ S1 v (z : Option Ev), Grow S S1 → Rp.rep S1.G v z → z = some ev → Q v S1.H := fun S1 v z g r e => hq S1 v z g r (by show z = readParts (Txt.split (lineOf ev) " "); rw [hs, readParts_ok he, e])
  have nd := sc_read_event.nd
  have hll := line_len he
  have z100 : 100 ≤ sizeLine := by decide
  show SB _ _ _ [some ⟨lineOf ev⟩, none, none] S
  refine s_set (x := evParts ev) 1 nd (by rw [← hs]; exact er_split (er_var 0) er_str (by decide) (by omega)) fun S1 g1 => ?_
  cases ev with
  | ord x y =>
    obtain ⟨a0, a1, b0, b1⟩ : 0 ≤ x ∧ x < 3 ∧ 0 ≤ y ∧ y < 3 := he
    refine s_if (t := true) (tr_and (p2 := default) (s := true) (t := true) (tr_cmp (cv_eqI (er_len b_len (xs := evParts (.ord x y)) (er_var 1)) er_int)) fun _ => tr_cmp (cv_eqS (er_ix (x := ("order" : Str)) (xs := evParts (.ord x y)) (er_var 1) er_int (by decide) rfl) er_str)) (fun _ S2 g2 => ?_) (fun t => nomatch t)
    have e : cutL (evParts (.ord x y)) (some 1) none = [chAt caps x, chAt caps y] := cut1 _ _
    refine s_ret (er_call cal_read_order (u := ([chAt caps x, chAt caps y], ())) (ar_cons (er_eq (er_sl_from (xs := evParts (.ord x y)) (er_var 1) er_int) e) ar_nil) ⟨_, _, let_ok a0 a1, let_ok b0 b1, rfl⟩) fun S3 v g3 rv => hq S3 v _ ((g1.trans g2).trans g3) rv ?_
    exact readParts_ok (e := .ord x y) ⟨a0, a1, b0, b1⟩
  | one k r =>
    have he2 := he
    obtain ⟨hk2, r0, r1⟩ : (k = "fail" ∨ k = "tow" ∨ k = "go") ∧ 0 ≤ r ∧ r < 4 := he
    have en : Str.ofString (toString r) = numS r := numS_eq r0 r1
    refine s_if (t := false) (tr_and (p2 := default) (s := false) (t := true) (tr_cmp (cv_eqI (er_len b_len (xs := evParts (.one k r)) (er_var 1)) er_int)) fun t => nomatch t) (fun t => nomatch t) (fun _ S2 g2 => s_end ?_)
    have hin : decide (k ∈ evWords) = true := by rcases hk2 with rfl | rfl | rfl <;> decide
    refine s_if (t := true) (tr_and (p2 := default) (s := true) (t := true) (tr_cmp (cv_eqI (er_len b_len (xs := evParts (.one k r)) (er_var 1)) er_int)) fun _ => tr_eq (tr_cmp (cv_inG (xs := evWords) words_at g_WORDS (er_ix (x := k) (xs := evParts (.one k r)) (er_var 1) er_int (by decide) rfl))) hin) (fun _ S3 g3 => ?_) (fun t => nomatch t)
    refine s_set (x := some r) 2 nd (by
      rw [← num_read r0 r1]
      exact er_call cal_read_number (u := (numS r, ())) (ar_cons (er_ix (x := numS r) (xs := evParts (.one k r)) (er_var 1) er_int (by decide) (by rw [← en]; rfl)) ar_nil) ⟨r, r0, r1, rfl⟩) fun S4 g4 => ?_
    refine s_if (t := true) (tr_cmp (cv_notN (o := some r) (er_var 2))) (fun _ S5 g5 => ?_) (fun t => nomatch t)
    exact s_ret (er_some (er_evOne (er_ix (x := k) (xs := evParts (.one k r)) (er_var 1) er_int (by decide) rfl) (er_out (x := r) (er_var 2)))) fun S6 v g6 rv => hq S6 v _ (((((g1.trans g2).trans g3).trans g4).trans g5).trans g6) rv rfl
def LogOk (es : List Ev) : Prop := (∀ e ∈ es, EvS e) ∧ es.length ≤ 100
def logOf (es : List Ev) : Str := Txt.join "\n" (es.map lineOf)
theorem lens_sum : ∀ {es : List Ev}, (∀ e ∈ es, EvS e) → ((es.map lineOf).map (·.length)).sum ≤ 20 * es.length
  | [], _ => by simp
  | e :: r, h => by
    have h1 := line_len (h e List.mem_cons_self)
    have h2 := lens_sum (es := r) fun x hx => h x (List.mem_cons_of_mem _ hx)
    rw [List.map_cons, List.map_cons, List.sum_cons, List.length_cons]
    omega
theorem cal_write_log : Cal "write_log" 2 (Spf (fun a : List Ev × Unit => LogOk a.1) fun a => logOf a.1) := by
  refine mkCal (d := d_write_log) i_write_log sc_write_log g_write_log (fun f cdv A outer s S a Q E hp hX hq => ?_) (hb := fun _ _ _ _ _ _ us hl => match us, hl with | [_], _ => rfl)
  obtain ⟨es, ⟨⟩⟩ := a
  obtain ⟨h1, h2⟩ : LogOk es := hp
  replace hq : ∀ S1 v z, Grow S S1 → Rp.rep S1.G v z → z = logOf es → Q v S1.H := hq
  have nd := sc_write_log.nd
  have hsum := lens_sum h1
  show SB _ _ _ [some ⟨es⟩, none] S
  refine s_ret (er_join er_str (en_lc (h := lineOf) 1 rfl nd (it_list (er_var 0)) (by omega) (blkOk_by (N := N_write_log) (sc := defScope s_write_log) (by decide +kernel)) (fun x hx S2 g2 X' hb => ?_)).er (by rw [List.length_map]; show _ + es.length * 1 ≤ _; omega)) fun S2 v g2 r => hq S2 v _ g2 r rfl
  obtain ⟨_, _, _, _, _, rfl⟩ := hb
  exact er_call cal_write_event (u := (x, ())) (ar_cons (er_var 1) ar_nil) (h1 x hx)
end
end Fl

set_option Elab.async false
set_option linter.all false
set_option maxRecDepth 100000
set_option maxHeartbeats 4000000
namespace Fl
open PySem PySem.Spec PyProof.Rows L2
def logEvs (z : Str) : List Ev := if z = "" then [] else (Txt.split z "\n").filterMap fun l => readParts (Txt.split l " ")
theorem join_len (y : Str) (ps : List Str) : (Txt.join y ps).length ≤ (ps.map (·.length)).sum + ps.length * y.length := by
  rw [TL.len_tl, TL.join_eq, TL.tl_join]
  induction ps with
  | nil => show 0 ≤ _; omega
  | cons p r ih =>
    cases r with
    | nil =>
      show (TL.tl p).length ≤ _
      rw [← TL.len_tl]
      simp
    | cons q r =>
      show (TL.tl p ++ (TL.tl y ++ TL.joinL (TL.tl y) ((q :: r).map TL.tl))).length ≤ _
      rw [List.length_append, List.length_append, ← TL.len_tl, ← TL.len_tl]
      have e1 : ((p :: q :: r).map (·.length)).sum = p.length + ((q :: r).map (·.length)).sum := by rw [List.map_cons, List.sum_cons]
      have e2 : (p :: q :: r).length * y.length = (q :: r).length * y.length + y.length := by rw [List.length_cons, Nat.succ_mul]
      rw [e1, e2]
      omega
theorem log_len [Ctx] {es : List Ev} (h : LogOk es) : (logOf es).length ≤ 2100 := by
  have h1 := join_len "\n" (es.map lineOf)
  have h2 := lens_sum h.1
  have h3 := h.2
  rw [List.length_map] at h1
  have h4 : es.length * ("\n" : Str).length = es.length := Nat.mul_one _
  unfold logOf
  omega
theorem split_log {es : List Ev} (h : ∀ e ∈ es, EvS e) (hn : es ≠ []) : Txt.split (logOf es) "\n" = es.map lineOf := TL.split_join (s := 10) (S := []) (by decide +kernel) (by decide +kernel) (fun z => hn (List.map_eq_nil_iff.mp z)) fun p hp => by
  obtain ⟨e, he, rfl⟩ := List.mem_map.mp hp
  exact line_free (h e he)
theorem log_nil : logOf [] = "" := by decide +kernel
theorem log_ne {e : Ev} {es : List Ev} (h : EvS e) : logOf (e :: es) ≠ "" := fun z => by
  have h1 := congrArg TL.tl z
  unfold logOf at h1
  rw [TL.join_eq, TL.tl_join, List.map_cons, List.map_cons] at h1
  have h0 : TL.tl (lineOf e) ≠ [] := fun z => line_ne h (by rw [TL.len_tl, z]; rfl)
  cases es with
  | nil => exact h0 h1
  | cons a r => exact h0 (List.append_eq_nil_iff.mp (show TL.tl (lineOf e) ++ _ = [] from h1)).1
theorem evs_back : ∀ {es : List Ev}, (∀ e ∈ es, EvS e) → (es.map lineOf).filterMap (fun l => readParts (Txt.split l " ")) = es
  | [], _ => rfl
  | e :: r, h => by
    rw [List.map_cons, List.filterMap_cons, split_line (h e List.mem_cons_self), readParts_ok (h e List.mem_cons_self)]
    exact congrArg _ (evs_back fun x hx => h x (List.mem_cons_of_mem _ hx))
theorem logEvs_back {es : List Ev} (h : LogOk es) : logEvs (logOf es) = es := by
  cases es with
  | nil => rw [log_nil]; rfl
  | cons e r =>
    unfold logEvs
    rw [if_neg (log_ne (h.1 e List.mem_cons_self)), split_log h.1 (fun z => nomatch z), evs_back h.1]
section
variable [c : Ctx]
theorem cal_read_log : Cal "read_log" 3 (Spf (fun a : Str × Unit => ∃ es, LogOk es ∧ a.1 = logOf es) fun a => logEvs a.1) := by
  refine mkCal (d := d_read_log) i_read_log sc_read_log g_read_log (fun f cdv A outer s S a Q E hp hX hq => ?_) (hb := fun _ _ _ _ _ _ us hl => match us, hl with | [_], _ => rfl)
  obtain ⟨tx, ⟨⟩⟩ := a
  obtain ⟨es, he, rfl⟩ : ∃ es, LogOk es ∧ tx = logOf es := hp
  replace hq : ∀ S1 v (z : List Ev), Grow S S1 → Rp.rep S1.G v z → z = es → Q v S1.H := fun S1 v z g r e => hq S1 v z g r (by show z = logEvs (logOf es); rw [logEvs_back he, e])
  have nd := sc_read_log.nd
  have hll := log_len he
  have z100 : 10000 ≤ sizeLine := by decide
  have hlen := he.2
  show SB _ _ _ [some ⟨logOf es⟩, none, none, none, none] S
  refine s_setN (α := Ev) 1 nd en_lst0 fun S1 p g1 hp1 m1 => ?_
  refine s_if (tr_cmp (cv_eqS (er_var 0) er_str)) (fun t S2 g2 => ?_) (fun t S2 g2 => s_end ?_)
  · have ht : logOf es = "" := of_decide_eq_true t
    have e0 : es = [] := by
      cases es with
      | nil => rfl
      | cons e r => exact absurd ht (log_ne (he.1 e List.mem_cons_self))
    refine SB.fixM 1 (g1.trans g2) hp1 (m1.up g2) fun S5 e5 g5 _ _ => ?_
    exact s_ret (er_var 1) fun S6 v g6 r => hq S6 v _ (g5.trans g6) r e0.symm
  have ht : ¬ logOf es = "" := of_decide_eq_false t
  have en : es ≠ [] := fun z => ht (by rw [z]; exact log_nil)
  refine s_for PassesOwn.never rfl (it_enum b_enumerate (er_eq (er_split (er_var 0) er_str (by decide) (by omega)) (split_log he.1 en))) (bg_pair rfl (bg_name 2 nd) (bg_name 3 nd)) fun S3 g3 => ?_
  refine ⟨fun r Γ' S' => ∃ done rest, Γ' = [some ⟨logOf es⟩, some ⟨(⟨p⟩ : Adr)⟩, none, none, none] ∧ es = done ++ rest ∧ r.map (·.2) = rest.map lineOf ∧ Grow S S' ∧ Same S3.G S'.G ∧ ML S' p done,
    ⟨[], es, rfl, rfl, ?_, (g1.trans g2).trans g3, Same.refl _, (m1.up g2).up g3⟩, fun r Γ' S' ⟨_, _, _, _, _, _, h, _⟩ => h, ?_, ?_⟩
  · unfold enumI
    rw [List.map_snd_zip]
    rw [rangeI_len]
    exact Nat.le_refl _
  · rintro pre ⟨n, x⟩ r Γ' S' hx ⟨done, rest, rfl, hes, hr, gS, s3, m⟩ S4 g4
    cases rest with
    | nil => cases hr
    | cons e rest =>
      rw [List.map_cons, List.map_cons] at hr
      injection hr with hr1 hr2
      have hr1 : x = lineOf e := hr1
      subst hr1
      have hev : EvS e := he.1 e (by rw [hes]; exact List.mem_append_right _ List.mem_cons_self)
      have hdl : done.length ≤ 100 := by
        have := congrArg List.length hes
        rw [List.length_append] at this
        omega
      refine s_set (x := some e) 4 nd (er_eq (er_call cal_read_event (u := (lineOf e, ())) (ar_cons (er_var 3) ar_nil) ⟨e, hev, rfl⟩) (by show readParts (Txt.split (lineOf e) " ") = some e; rw [split_line hev, readParts_ok hev])) fun S5 g5 => ?_
      refine s_if (t := false) (tr_cmp (cv_isN (o := some e) (er_var 4))) (fun t => nomatch t) (fun _ S6 g6 => s_end ?_)
      refine s_app (((m.up g4).up g5).up g6) (er_var 1) (er_out (x := e) (er_var 4)) (by omega) fun S7 u7 m7 => s_next (.keep (.keep (.drop (.drop (.drop .nil))))) ?_
      exact ⟨done ++ [e], rest, rfl, by rw [hes, List.append_assoc]; rfl, hr2, (((gS.trans g4).trans g5).trans g6).upd hp1 u7, (s3.trans ((g4.trans g5).trans g6).g).trans u7.g, m7⟩
  · rintro Γ' S' ⟨done, rest, rfl, hes, hr, gS, _, m⟩
    have e0 : rest = [] := List.map_eq_nil_iff.mp hr.symm
    subst e0
    rw [List.append_nil] at hes
    refine SB.fixM 1 gS hp1 m fun S5 e5 g5 _ _ => ?_
    exact s_ret (er_var 1) fun S6 v g6 r => hq S6 v _ (g5.trans g6) r hes.symm
end
end Fl

set_option Elab.async false
set_option linter.all false
set_option maxRecDepth 100000
set_option maxHeartbeats 4000000
namespace Fl
open PySem PySem.Spec PyProof.Rows L2
/-! ### tiles -/
def doorT (t : Str) : Bool := decide (t = "+") || isIn t smalls
def isTile (t : Str) : Bool := decide (t ∈ (["#", ".", "+"] : List Str)) || (stationOf t).isSome
def tileGood (t : Str) : Bool := match t.cps.toList with
  | [ch] => isTile t && (decide (t = "#") == !isCell t && ((match stationOf t with | none => true | some n => decide (0 ≤ n) && decide (n < 3)) && (!decide (t = "\n") && (!decide (t = " ") && !decide (t = "\t")))))
  | _ => false
theorem tiles_good : tiles8.all tileGood = true := by decide +kernel
theorem tile_one {t : Str} (h : t ∈ tiles8) : ∃ ch, t = ⟨#[ch]⟩ := by
  have q := List.all_eq_true.mp tiles_good t h
  obtain ⟨⟨l⟩⟩ := t
  unfold tileGood at q
  cases l with
  | nil => cases q
  | cons ch l =>
    cases l with
    | nil => exact ⟨ch, rfl⟩
    | cons _ _ => cases q
structure TileF (t : Str) : Prop where
  tile : isTile t = true
  st : ∀ n, stationOf t = some n → 0 ≤ n ∧ n < 3
  nl : decide (t = "\n") = false
  sp : decide (t = " ") = false
  tb : decide (t = "\t") = false
theorem tile_f {t : Str} (h : t ∈ tiles8) : TileF t := by
  have q := List.all_eq_true.mp tiles_good t h
  obtain ⟨ch, rfl⟩ := tile_one h
  have q : (isTile ⟨#[ch]⟩ && (decide ((⟨#[ch]⟩ : Str) = "#") == !isCell ⟨#[ch]⟩ && ((match stationOf ⟨#[ch]⟩ with | none => true | some n => decide (0 ≤ n) && decide (n < 3)) && (!decide ((⟨#[ch]⟩ : Str) = "\n") && (!decide ((⟨#[ch]⟩ : Str) = " ") && !decide ((⟨#[ch]⟩ : Str) = "\t")))))) = true := q
  simp only [Bool.and_eq_true, Bool.not_eq_true'] at q
  obtain ⟨h1, _, h2, h3, h4, h5⟩ := q
  refine ⟨h1, fun n e => ?_, h3, h4, h5⟩
  rw [e] at h2
  have h2 : (decide (0 ≤ n) && decide (n < 3)) = true := h2
  obtain ⟨a, b⟩ := Bool.and_eq_true_iff.mp h2
  exact ⟨of_decide_eq_true a, of_decide_eq_true b⟩
section
variable {X : Cx} {a b d : Expr} {Γ : Gm} {S : HS} {pos : Pos} {s t z : Str}
theorem er_tpl3 {kk : Nat} (h1 : ER X a Γ S s) (h2 : ER X b Γ S t) (h3 : ER X d Γ S z) (s1 : starEach [a, b, d] X.env = (false, eval a X.env) :: starEach [b, d] X.env := by rfl) (s2 : starEach [b, d] X.env = (false, eval b X.env) :: starEach [d] X.env := by rfl) (s3 : starEach [d] X.env = [(false, eval d X.env)] := by rfl) :
    ER X (.Tuple [a, b, d] kk pos) Γ S (⟨[s, t, z]⟩ : Tpl Str) := fun σ hσ S1 g Q k => w_pe (pe_tup (pa_cons pe_w (pa_cons pe_w (pa_cons pe_w pa_nil s3) s2) s1)) (h1 σ hσ S1 g _ fun S2 u g2 ru => h2 σ hσ S2 (g.trans g2) _ fun S3 v g3 rv => h3 σ hσ S3 ((g.trans g2).trans g3) _ fun S4 w g4 rw' =>
    ⟨(by show 3 ≤ sizeLine; decide), fun p hp => by
      cases (show u = V.str s from ru)
      cases (show v = V.str t from rv)
      cases (show w = V.str z from rw')
      exact k (S4.new p _ hp) _ (((g2.trans g3).trans g4).trans (.new S4 p _ hp)) ⟨p, _, rfl, HS.new_at, reps.str_of [s, t, z]⟩⟩)
end
section
variable [c : Ctx]
theorem cal_is_tile : Cal "is_tile" 2 (Spf (fun _ : Str × Unit => True) fun a => isTile a.1) := by
  refine mkCal (d := d_is_tile) i_is_tile sc_is_tile g_is_tile (fun f cdv A outer s S a Q E hp hX hq => ?_) (hb := fun _ _ _ _ _ _ us hl => match us, hl with | [_], _ => rfl)
  obtain ⟨t, ⟨⟩⟩ := a
  replace hq : ∀ S1 u z, Grow S S1 → Rp.rep S1.G u z → z = isTile t → Q u S1.H := hq
  show SB _ _ _ [some ⟨t⟩] S
  exact s_ret (er_orB (er_cmp (cv_inTS (er_var 0) (er_tpl3 er_str er_str er_str))) fun _ => er_cmp (cv_notN (er_call cal_station_of (u := (t, ())) (ar_cons (er_var 0) ar_nil) trivial))) fun S3 v g3 r => hq S3 v _ g3 r rfl
theorem cal_is_door : Cal "is_door" 1 (Spf (fun _ : Str × Unit => True) fun a => doorT a.1) := by
  refine mkCal (d := d_is_door) i_is_door sc_is_door g_is_door (fun f cdv A outer s S a Q E hp hX hq => ?_) (hb := fun _ _ _ _ _ _ us hl => match us, hl with | [_], _ => rfl)
  obtain ⟨t, ⟨⟩⟩ := a
  replace hq : ∀ S1 u z, Grow S S1 → Rp.rep S1.G u z → z = doorT t → Q u S1.H := hq
  obtain ⟨t1, k1⟩ := k_SMALL_LETTERS (c := c)
  show SB _ _ _ [some ⟨t⟩] S
  exact s_ret (er_orB (er_cmp (cv_eqS (er_var 0) er_str)) fun _ => er_cmp (cv_inS (t := smalls) (er_var 0) (er_gstr k1))) fun S3 v g3 r => hq S3 v _ g3 r rfl
theorem str_empty_iff (s : Str) : decide (s = "") = decide (s.length = 0) := by
  obtain ⟨⟨l⟩⟩ := s
  cases l with
  | nil => rfl
  | cons a l => exact decide_eq_decide.mpr ⟨fun z => (nomatch congrArg (fun s : Str => s.cps.toList) z), fun z => (nomatch z)⟩
def preRp (a : List Str × Str × Unit) : Prop := a.1.length ≤ 100 ∧ a.2.1.length ≤ 100 ∧ ∀ r0, a.1[0]? = some r0 → r0.length = a.2.1.length
theorem cal_row_problem : Cal "row_problem" 1 (Spf preRp fun _ => ("" : Str)) := by
  refine mkCal (d := d_row_problem) i_row_problem sc_row_problem g_row_problem (fun f cdv A outer s S a Q E hp hX hq => ?_) (hb := fun _ _ _ _ _ _ us hl => match us, hl with | [_, _], _ => rfl)
  obtain ⟨rows, row, ⟨⟩⟩ := a
  obtain ⟨h0, h1, h2⟩ : rows.length ≤ 100 ∧ row.length ≤ 100 ∧ ∀ r0 : Str, rows[0]? = some r0 → r0.length = row.length := hp
  replace hq : ∀ S1 u z, Grow S S1 → Rp.rep S1.G u z → z = ("" : Str) → Q u S1.H := hq
  have z100 : 10000 ≤ sizeLine := by decide
  show SB _ _ _ [some ⟨rows⟩, some ⟨row⟩] S
  cases rows with
  | nil =>
    refine s_if (t := true) (tr_eq (tr_or3 (s := decide (row = "")) (t := true) (u := true) (tr_cmp (cv_eqS (s := row) (er_var 1) er_str)) (fun _ => tr_not (s := false) (tr_list (xs := ([] : List Str)) (er_var 0))) (fun _ z => nomatch z)) (by simp)) (fun _ S1 g1 => ?_) (fun t => nomatch t)
    exact s_ret er_str fun S2 v g2 r => hq S2 v _ (g1.trans g2) r rfl
  | cons r0 rr =>
    have e0 := h2 r0 rfl
    refine s_if (t := true) (tr_eq (tr_or3 (s := decide (row = "")) (t := false) (u := true) (tr_cmp (cv_eqS (s := row) (er_var 1) er_str)) (fun _ => tr_not (s := true) (tr_list (xs := r0 :: rr) (er_var 0))) (fun _ _ => tr_eq (tr_cmp (cv_eqI (er_lens (s := row) b_len (er_var 1) (by omega)) (er_lens (s := r0) b_len (er_ix (x := r0) (xs := r0 :: rr) (er_var 0) er_int (by decide) rfl) (by omega)))) (by rw [e0]; exact decide_eq_true rfl))) (by simp)) (fun _ S1 g1 => ?_) (fun t => nomatch t)
    exact s_ret er_str fun S2 v g2 r => hq S2 v _ (g1.trans g2) r rfl
structure PreTp (rows : List Str) (row sign : Str) (cells : Int) : Prop where
  r : rows.length ≤ 6
  w : row.length < 6
  t : sign ∈ tiles8
  c : cells < 100
  f : ∀ r0, rows[0]? = some r0 → r0.length ≤ 100 ∧ row.length < r0.length
theorem cal_tile_problem : Cal "tile_problem" 3 (Spf (fun a : List Str × Str × Str × Int × Unit => PreTp a.1 a.2.1 a.2.2.1 a.2.2.2.1) fun _ => ("" : Str)) := by
  refine mkCal (d := d_tile_problem) i_tile_problem sc_tile_problem g_tile_problem (fun f cdv A outer s S a Q E hp hX hq => ?_) (hb := fun _ _ _ _ _ _ us hl => match us, hl with | [_, _, _, _], _ => rfl)
  obtain ⟨rows, row, sign, cells, ⟨⟩⟩ := a
  have h : PreTp rows row sign cells := hp
  obtain ⟨h1, h2, h3, h4, h5⟩ := h
  have tf := tile_f h3
  replace hq : ∀ S1 u z, Grow S S1 → Rp.rep S1.G u z → z = ("" : Str) → Q u S1.H := hq
  have nd := sc_tile_problem.nd
  have z100 : 10000 ≤ sizeLine := by decide
  obtain ⟨t1, k1⟩ := k_ROW_LIMIT (c := c)
  obtain ⟨t2, k2⟩ := k_COLUMN_LIMIT (c := c)
  obtain ⟨t3, k3⟩ := k_CELL_LIMIT (c := c)
  obtain ⟨t4, k4⟩ := k_STATION_LIMIT (c := c)
  show SB _ _ _ [some ⟨rows⟩, some ⟨row⟩, some ⟨sign⟩, some ⟨cells⟩, none] S
  refine s_if (t := false) (tr_eq (tr_not (tr_bool (er_call cal_is_tile (u := (sign, ())) (ar_cons (er_var 2) ar_nil) trivial))) (by show (!isTile sign) = false; rw [tf.tile]; rfl)) (fun t => nomatch t) (fun _ S1 g1 => s_end ?_)
  refine s_if (t := false) (tr_eq (tr_cmp (cv_ge (er_len b_len (er_var 0)) (er_gint k1))) (decide_eq_false (by omega))) (fun t => nomatch t) (fun _ S2 g2 => s_end ?_)
  refine s_if (t := false) ?_ (fun t => nomatch t) (fun _ S3 g3 => s_end ?_)
  · cases rows with
    | nil => exact tr_and (p2 := default) (s := false) (t := false) (tr_list (xs := ([] : List Str)) (er_var 0)) fun z => nomatch z
    | cons r0 rr =>
      have q := h5 r0 rfl
      exact tr_and (p2 := default) (s := true) (t := false) (tr_list (xs := r0 :: rr) (er_var 0)) fun _ => tr_eq (tr_cmp (cv_ge (er_lens b_len (er_var 1) (by omega)) (er_lens b_len (er_ix (x := r0) (er_var 0) er_int (by decide) rfl) (by omega)))) (decide_eq_false (by omega))
  refine s_if (t := false) (tr_eq (tr_cmp (cv_ge (er_lens b_len (er_var 1) (by omega)) (er_gint k2))) (decide_eq_false (by omega))) (fun t => nomatch t) (fun _ S4 g4 => s_end ?_)
  refine s_set (x := stationOf sign) 4 nd (er_call cal_station_of (u := (sign, ())) (ar_cons (er_var 2) ar_nil) trivial) fun S5 g5 => ?_
  refine s_if (t := false) ?_ (fun t => nomatch t) (fun _ S6 g6 => s_end ?_)
  · cases e : stationOf sign with
    | none => exact tr_and (p2 := default) (s := false) (t := false) (tr_cmp (cv_notN (o := (none : Option Int)) (er_var 4))) fun z => nomatch z
    | some n =>
      have q := tf.st n e
      exact tr_and (p2 := default) (s := true) (t := false) (tr_cmp (cv_notN (o := some n) (er_var 4))) fun _ => tr_eq (tr_cmp (cv_ge (er_out (x := n) (er_var 4)) (er_gint k4))) (decide_eq_false (by omega))
  refine s_if (t := false) (tr_eq (tr_and (p2 := default) (t := false) (tr_bool (er_call cal_is_cell (u := (sign, ())) (ar_cons (er_var 2) ar_nil) trivial)) fun _ => tr_eq (tr_cmp (cv_ge (er_var 3) (er_gint k3))) (decide_eq_false (by omega))) (Bool.and_false _)) (fun t => nomatch t) (fun _ S7 g7 => s_end ?_)
  exact s_ret er_str fun S8 v g8 r => hq S8 v _ (((((((g1.trans g2).trans g3).trans g4).trans g5).trans g6).trans g7).trans g8) r rfl
end
end Fl

set_option Elab.async false
set_option linter.all false
set_option maxRecDepth 100000
set_option maxHeartbeats 4000000
namespace Fl
open PySem PySem.Spec PyProof.Rows L2
/-! ### a generator whose element calls a def of the module -/
/-- the element, evaluated in a state that holds the ground B: a test of the sign -/
def EltQ (prog : Program) (w : World) (B : Heap) (D U : Nat) (scope : Scope) (x : Str) (elt : Expr) (pb : Nat → Bool) : Prop :=
  ∀ (en : Env) (A1 : Around) (E1 : Value → Shared → Prop) (ch : Nat) (tk : Tok) (s2 : Shared) (m2 : Str → Option Value), en.scope = scope → en.globals = mainGlobals → A1.handled = none → A1.depth ≤ D → A1.units ≤ U → s2.heap.Ns en.locals m2 → m2 x = some (.str ⟨#[ch]⟩ tk) →
    (∀ b o, B.get? b = some o → s2.heap.get? b = some o) → wpAny (model prog w) A1 (eval elt en) (fun y s3 => y = .bool (pb ch) ∧ Keeps s2 s3) E1 s2
section
variable {X : Cx} {pins : List (Addr × Obj)} {σ : L2.St} {H : Hp} {s : Shared}
theorem gen_q {c P : Addr} {elt iter : Expr} {x : Str} {px gpos : Pos} {scope : Scope} {pb : Nat → Bool} {te : TE} {k : Nat} {Q1 : Value → Shared → Prop} {R : Str → Hp → Prop} (hr : Room k X.A) (TB : GxR.TabB X.base X.mg c P) (hcode : X.env.code = .ref c) (S : GxR.GenS X.env scope x) (hi : PE X iter te)
    (hel : L2.Mod X.K X.mg X.base → EltQ X.prog X.w X.base (X.A.depth + 1) (X.A.units + 8) scope x elt pb) (hs : ∀ v, genFold iter X.env v = pure v) (I : Inv X pins σ H s) (h : te σ H fun v H1 => ∃ a : Str, v = .str a ∧ GxR.TabG H1 P ∧ R a H1)
    (hQ : ∀ a H1 g s5, R a H1 → GxR.Ready X pins σ H1 P a pb g s5 → Q1 (.ref g) s5) : wpAny (model X.prog X.w) X.A (eval (.GeneratorExp elt [⟨.Name x px, iter, [], 0⟩] scope gpos) X.env) Q1 X.xe s := by
  have hroom : X.A.depth < recursionLimit := by have := hr.dp; omega
  refine wpAny_GeneratorExp_walksQD hr.hd S.co (closure_ok S.free) S.cell S.dot S.loc S.kind hroom ?_ hs
  refine thn (hi.run pins s σ H _ I h) fun xv s1 hv => ?_
  obtain ⟨v, H1, J, r1, a, rfl, ⟨ps, hP, ht⟩, q1⟩ := hv
  obtain ⟨t, rfl⟩ := _root_.id r1
  refine wpAny_pyIter_str fun o St W hst => ?_
  have atP : s1.heap.get? P = some { cls := .none, data := .fields ps } := J.hok P _ hP
  have ltP : P < s1.heap.objs.size := Heap.lt_size atP
  have pP : (s1.heap.push o).get? P = some { cls := .none, data := .fields ps } := Heap.get?_push_of_some _ atP
  have code2 : PySem.W.CodeHd (s1.heap.push o) c P := TB.code.keeps fun b u e => Heap.get?_push_of_some _ (J.bk b u e)
  have noL : (s1.heap.push o).NoLimit := J.nolimit.push o
  have sz1 : (s1.heap.push o).objs.size = s1.heap.objs.size + 1 := Heap.size_push ..
  have csP : cStatics ≠ P := fun e => by
    obtain ⟨_, ⟨o1, _, _, ho, hd, _⟩, _⟩ := J.nolimit
    rw [e, atP] at ho
    injection ho with ho
    rw [← ho] at hd
    cases hd
  have csl : cStatics < s1.heap.objs.size := by
    obtain ⟨_, hn, _⟩ := J.nolimit
    exact hn.lt
  obtain ⟨bm, ob, b1, b2, b3, b4, b5, b6, b7, b8⟩ := TB.bm
  have rest : ∀ (cv : Value) (h3 : Heap) (tk : Nat) (ps2 : Array Value), Heap.ExtBut P (s1.heap.push o) h3 → s1.heap.objs.size + 1 ≤ h3.objs.size → h3.get? P = some { cls := .none, data := .fields ps2 } → (∃ more, ps2 = ps ++ more) → TriplesOk ps2.toList →
      wpAny (model X.prog X.w) X.A (builtinsFor X.env.globals X.env.builtins) (fun bi s₄ =>
        ∃ Ia fp wr n₀ Pf St₀ pz F, Value.ref s1.heap.objs.size = .ref Ia ∧ (∀ A' : Around, A'.handled = none → Walks X.prog X.w A' Ia fp wr n₀ Pf St₀) ∧ St₀ 0 s₄.heap ∧ (∀ b ∈ fp, b < s₄.heap.objs.size) ∧ s₄.heap.NoLimit ∧ cStatics ∉ wr ∧
          (∀ href : Heap, (∀ b o, s₄.heap.get? b = some o → href.get? b = some o) → QuietGenD X.prog X.w (genEnv scope (cloFrom X.env.cells scope.names []) s₄.heap.objs.size cv bi X.env) x [] elt (List.range s₄.heap.objs.size) wr Pf pz F href (X.A.depth + 1) (X.A.units + 8)) ∧
          (∀ a h₅ tk gs, gs.bare = true → s₄.heap.objs.size < a → h₅.objs.size = a + 1 → (∀ b o, s₄.heap.get? b = some o → h₅.get? b = some o) →
            WalksS X.prog X.w X.A.in4 a (a :: s₄.heap.objs.size :: List.range s₄.heap.objs.size) (s₄.heap.objs.size :: wr) (GenOnlyQ s₄.gens.size) (passing pz n₀ 0).length (fun j y => ∃ i, (passing pz n₀ 0)[j]? = some i ∧ F i y) (GenAt X.prog X.w X.A.in4 a s₄.gens.size s₄.heap.objs.size (List.range s₄.heap.objs.size) wr pz n₀ F) →
            GenAt X.prog X.w X.A.in4 a s₄.gens.size s₄.heap.objs.size (List.range s₄.heap.objs.size) wr pz n₀ F 0 { s₄ with gens := s₄.gens.push gs, toks := tk, heap := h₅ } → Q1 (.ref a) { s₄ with gens := s₄.gens.push gs, toks := tk, heap := h₅ })) X.xe { s1 with heap := h3, toks := tk } := by
    intro cv h3 tk ps2 hx hsz atP3 hmore ht3
    have old3 : ∀ b u, b ≠ P → s1.heap.get? b = some u → h3.get? b = some u := fun b u hb e => hx b u hb (Heap.get?_push_of_some _ e)
    have ground : ∀ b u, X.base.get? b = some u → h3.get? b = some u := fun b u e => old3 b u (fun z => by
      have := (J.bs b u e).2
      rw [z, hP] at this
      cases this) (J.bk b u e)
    have nsG : h3.Ns X.env.globals X.mg := by
      rw [J.ok.glob]
      exact J.mod.glob.keeps ground
    refine wpAny_builtinsFor nsG b1 b2 (ground _ _ b5) b6 b7 b8 ?_
    refine ⟨s1.heap.objs.size, [s1.heap.objs.size], [s1.heap.objs.size], a.cps.size, SignAt a, St, fun _ => true, fun i y => ∃ cc, a.cps[i]? = some cc ∧ y = .bool (pb cc), rfl, W, ?_, ?_, noL.extBut hx csP, ?_, fun href hh => ⟨?_, ?_⟩, ?_⟩
    · exact (W X.A hr.hd).frame _ _ _ hst fun b hb u e => hx b u (fun z => Nat.lt_irrefl P (by rw [← z, List.mem_singleton.mp hb] at ltP; exact absurd ltP (Nat.lt_irrefl _))) e
    · intro b hb
      rw [List.mem_singleton.mp hb]
      exact Nat.lt_of_lt_of_le (Nat.lt_succ_self _) hsz
    · intro z
      rw [List.mem_singleton.mp z] at csl
      exact Nat.lt_irrefl _ csl
    · intro A1 E1 i v s2 m2 hA _ _ hPv hn hm hk
      rw [List.forIn_nil]
      exact wpAny_pure ⟨rfl, GxR.keeps_refl _⟩
    · intro A1 E1 i v s2 m2 hA hD hU hPv hp hn hm hk
      obtain ⟨cc, u, hcc, rfl⟩ := hPv
      refine wpAny_mono (hel J.ok.mod (genEnv scope (cloFrom X.env.cells scope.names []) h3.objs.size cv builtinsNs X.env) A1 E1 cc u s2 m2 rfl J.ok.glob hA hD hU hn hm fun b o e => hk b (List.mem_range.mpr (Heap.lt_size (ground b o e))) (fun z => ?_) o (hh b o (ground b o e))) (fun y s3 r => ⟨⟨cc, hcc, r.1⟩, r.2⟩) fun _ _ e => e
      have z1 := Heap.lt_size (J.bk b o e)
      rw [List.mem_singleton.mp z] at z1
      exact Nat.lt_irrefl _ z1
    · intro g h5 tk5 gs hgb hag hsz5 hk5 W5 hat
      simp only [GxR.passing_true, List.length_range] at W5
      refine hQ a H1 g _ q1 ⟨_, _, _, _, _, W5.in4_1, hat, ?_, fun s6 hm => ?_⟩
      · intro j y sj Qj Ej ⟨i, hij, cc, hcc, ey⟩ hQj
        subst ey
        obtain ⟨hj, ej⟩ := List.getElem?_eq_some_iff.mp hij
        rw [List.getElem_range] at ej
        subst ej
        have e9 : a.cps.toList[j]? = some cc := Array.getElem?_toList.trans hcc
        have tr : GxR.trF pb a.cps.toList j = pb cc := GxR.trF_some e9
        rw [tr] at hQj
        exact wpAny_truthy_bool hQj
      · obtain ⟨more, em⟩ := hmore
        have outW : ∀ b, b < s1.heap.objs.size → b ∉ h3.objs.size :: [s1.heap.objs.size] := fun b hl hb => by
          rcases List.mem_cons.mp hb with z | z
          · rw [z] at hl
            have hl : (h3.objs.size : Nat) < s1.heap.objs.size := hl
            omega
          · rw [List.mem_singleton.mp z] at hl
            exact Nat.lt_irrefl _ hl
        have K2 := GxR.inv_tab (more := more) (h' := s6.heap) (g' := s6.gens) (d' := s6.drawn) (t' := s6.toks) J hP (fun b u hb e => hm.heap b u (outW b (Heap.lt_size e)) (hk5 b u (old3 b u hb e)))
          (by rw [← em]; exact hm.heap P _ (outW P ltP) (hk5 P _ atP3)) (AllBare.movedS (J.bare.push hgb) hm)
        rw [GxR.sh_eta s1 s6 hm.os] at K2
        exact ⟨_, ⟨⟨ps ++ more, upd_same, by rw [← em]; exact ht3⟩, fun b hb => upd_ne hb⟩, K2⟩
  refine ⟨noL, ?_⟩
  cases hf : codeAmong gpos ps.toList with
  | some cv => exact wpAny_genexprCode_hit hcode (code2.code pP ht) hf (rest cv (s1.heap.push o) s1.toks ps (Heap.ExtBut.refl _ _) (by omega) pP ⟨#[], by simp⟩ ht)
  | none =>
    refine wpAny_genexprCodeX hcode (code2.code pP ht) (code2.tab pP) hf fun c2 h2 tk hx hge hlt hco _ htab _ => ?_
    obtain ⟨_, _, _, _, _, _, _, _, _, _, _, _, _, _, _, _, _, _, _, htr, _⟩ := hco
    exact rest _ h2 tk _ hx (by rw [sz1] at hge; exact Nat.le_trans hge (Nat.le_of_lt hlt)) htab.2 ⟨_, rfl⟩ htr
theorem pe_anyQ {c P : Addr} {elt iter : Expr} {x : Str} {px p pos gpos : Pos} {scope : Scope} {pb : Nat → Bool} {te : TE} {k : Nat} (hr : Room k X.A) (hg : Gl X "any") (hm : X.mg "any" = none) (TB : GxR.TabB X.base X.mg c P) (hcode : X.env.code = .ref c) (S : GxR.GenS X.env scope x) (hi : PE X iter te)
    (hel : L2.Mod X.K X.mg X.base → EltQ X.prog X.w X.base (X.A.depth + 1) (X.A.units + 8) scope x elt pb) (hs : ∀ v, genFold iter X.env v = pure v) (he : starEach [.GeneratorExp elt [⟨.Name x px, iter, [], 0⟩] scope gpos] X.env = (false, eval (.GeneratorExp elt [⟨.Name x px, iter, [], 0⟩] scope gpos) X.env) :: starEach [] X.env := by rfl) :
    PE X (.Call (.Name "any" p) [.GeneratorExp elt [⟨.Name x px, iter, [], 0⟩] scope gpos] [] pos) (GxR.tAnyS P pb te) := ⟨fun pins s σ H Q I h => by
  refine wpAny_Call_Name_kw (ld_blt I hg hm boot_any (PyProof.Rows.callWith_builtin1 ?_ he (by rfl)))
  rw [he]
  refine Calls.spliced_cons (gen_q (R := fun a H1 => ∀ H2, GxR.Tabbed P H1 H2 → Q (.bl (a.cps.toList.any pb)) H2) hr TB hcode S hi hel hs I h fun a H1 g s5 hR ⟨fp, wr, G, F, Sx, W, hst, htr, hI⟩ => Calls.spliced_nil (call_any_walkS (W.self 0 _ _ _ hst ⟨g, fp, wr, G, _, F, Sx, _, rfl, W, hst, htr, fun s6 hmv => ?_⟩)))
  obtain ⟨H2, hT, J⟩ := hI s6 hmv
  exact ⟨.bl _, H2, J, rfl, by rw [GxR.any_signs a pb]; exact hR H2 hT⟩⟩
end
end Fl

set_option Elab.async false
set_option linter.all false
set_option maxRecDepth 100000
set_option maxHeartbeats 4000000
namespace Fl
open PySem PySem.Spec PyProof.Rows L2
/-! ### max(whole numbers, default=d) -/
section
variable {prog : Program} {w : World} {A : Around} {R : Result → Shared → Prop} {I S : Addr} {fp wr : List Addr} {G : Array GenState → Array GenState → Prop} {n : Nat} {P : Nat → Value → Prop} {St : Nat → Shared → Prop} {val : Nat → Int} {d : Value}
def MxEnd (P : Nat → Value → Prop) (val : Nat → Int) (n : Nat) (d v : Value) : Prop := (n = 0 ∧ v = d) ∨ ∃ i, i < n ∧ P i v ∧ ∀ j, j < n → val j ≤ val i
def boxOf : Option (Nat × Value) → Array Value
  | none => #[]
  | some q => #[q.2, q.2]
def BestUp (P : Nat → Value → Prop) (val : Nat → Int) (j : Nat) : Option (Nat × Value) → Prop
  | none => j = 0
  | some q => q.1 < j ∧ P q.1 q.2 ∧ ∀ i, i < j → val i ≤ val q.1
theorem mx_go (W : WalksS prog w A.in1 I fp wr G n P St) (hcmp : CmpOf prog w A.in1 .Gt P fun i j => decide (val i > val j)) (hS : S ∉ fp) : ∀ (k j : Nat) (s : Shared) (b : Option (Nat × Value)) (ep : Nat), n - j = k → j ≤ n → St j s → BestUp P val j b →
    s.heap.get? S = some { cls := .type "list", dict := none, data := .seq (boxOf b) ep, slots := #[] } → (∀ v s1, MxEnd P val n d v → Moved (S :: wr) G s s1 → R (.ok (.ret v)) s1) →
    codeAny (model prog w) A (.builtin "max.loop" ⟨[.ref I, .none, .ref S], [("default", d)]⟩) R s := by
  have nm : (toString "max" ++ toString ".loop" : String) = "max.loop" := by decide
  have inS : ∀ b ∈ wr, b ∈ S :: wr := fun b hb => List.mem_cons_of_mem _ hb
  have outS : S ∉ wr := fun z => hS (W.sub _ z)
  have neS : ∀ {b : Addr}, b ∉ S :: wr → S ≠ b := fun hb z => hb (z ▸ List.mem_cons_self)
  intro k
  induction k with
  | zero =>
    intro j s b ep hk hj hst hb hat hR
    have e : j = n := by omega
    subst e
    refine codeAny_builtin F.entry_max_loop ?_
    rw [Around.under_plainId F.plain_max_loop _]
    refine (show wpAny _ A.in1 (seqItems? (.ref S) >>= _) _ _ s from wpAny_bind (wpAny_seqItems hat rfl ?_))
    refine (show wpAny _ A.in1 (tryCatch (pyNext (.ref I)) _ >>= _) _ _ s from wpAny_bind (wpAny_tryCatch (W.done s _ _ hst fun s1 hm => ?_)))
    have at1 := hm.heap S _ outS hat
    cases b with
    | none =>
      have h0 : j = 0 := hb
      refine (show wpAny _ A.in1 (_ >>= fun _ => ret d) _ _ _ from wpAny_bind ?_)
      repeat wp_step
      exact hR d _ (.inl ⟨h0, rfl⟩) (hm.mono inS)
    | some q =>
      obtain ⟨h1, h2, h3⟩ : q.1 < j ∧ P q.1 q.2 ∧ ∀ i, i < j → val i ≤ val q.1 := hb
      have at2 : s1.heap.get? S = some { cls := .type "list", dict := none, data := .seq #[q.2, q.2] ep, slots := #[] } := at1
      refine (show wpAny _ A.in1 (updateSeq S (fun _ => #[]) >>= _) _ _ _ from wpAny_bind (wpAny_updateSeq at2 rfl (wpAny_bind (wpAny_letGo (wpAny_pure ?_)))))
      exact hR q.2 _ (.inr ⟨q.1, h1, h2, h3⟩) ((hm.mono inS).then_heap (tk := s1.toks) (Nat.le_refl _) fun b o hb e => (Heap.get?_update_other _ _ (neS hb)).trans e)
  | succ k ih =>
    intro j s b ep hk hj hst hb hat hR
    have hlt : j < n := by omega
    refine codeAny_builtin F.entry_max_loop ?_
    rw [Around.under_plainId F.plain_max_loop _]
    refine (show wpAny _ A.in1 (seqItems? (.ref S) >>= _) _ _ s from wpAny_bind (wpAny_seqItems hat rfl ?_))
    refine (show wpAny _ A.in1 (tryCatch (pyNext (.ref I)) _ >>= _) _ _ s from wpAny_bind (wpAny_tryCatch (W.item j s _ _ hlt hst fun v s1 hP hst1 hm => ?_)))
    have at1 := hm.heap S _ outS hat
    have again : ∀ (s2 : Shared) (b2 : Option (Nat × Value)) (ep2 : Nat), St (j + 1) s2 → BestUp P val (j + 1) b2 → s2.heap.get? S = some { cls := .type "list", dict := none, data := .seq (boxOf b2) ep2, slots := #[] } → Moved (S :: wr) G s s2 →
        codeAny (model prog w) A (.builtin "max.loop" ⟨[.ref I, .none, .ref S], [("default", d)]⟩) R s2 := fun s2 b2 ep2 h1 h2 h3 h4 => ih (j + 1) s2 b2 ep2 (by omega) hlt h1 h2 h3 fun v s3 q m => hR v s3 q (Moved.trans W.gtrans h4 m)
    have put : ∀ f : Array Value → Array Value, St (j + 1) { s1 with heap := s1.heap.update S fun o => o.mapSeq f } → True := fun _ _ => trivial
    cases b with
    | none =>
      have h0 : j = 0 := hb
      refine (show wpAny _ A.in1 (updateSeq S (fun _ => #[v, v]) >>= _) _ _ _ from wpAny_bind (wpAny_updateSeq at1 rfl ?_))
      rw [nm]
      refine wpAny_pure ⟨plainId_quiet F.plain_max_loop _, again _ (some (j, v)) _ (W.frame _ s1 _ s1.toks hst1 (Nat.le_refl _) fun b hbf o e => (Heap.get?_update_other _ _ (fun z : S = b => hS (z ▸ hbf))).trans e) ⟨Nat.lt_succ_self _, hP, fun i hi => ?_⟩ (Heap.get?_update_self _ at1 rfl) ((hm.mono inS).then_heap (tk := s1.toks) (Nat.le_refl _) fun b o hb e => (Heap.get?_update_other _ _ (neS hb)).trans e)⟩
      have : i = j := by omega
      rw [this]
      exact Int.le_refl _
    | some q =>
      obtain ⟨h1, h2, h3⟩ : q.1 < j ∧ P q.1 q.2 ∧ ∀ i, i < j → val i ≤ val q.1 := hb
      have at2 : s1.heap.get? S = some { cls := .type "list", dict := none, data := .seq #[q.2, q.2] ep, slots := #[] } := at1
      refine (show wpAny _ A.in1 (tryCatch (holding [v, v] (richCompare .Gt v q.2 >>= _)) _ >>= _) _ _ _ from wpAny_bind (wpAny_tryCatch (wpAny_holding (wpAny_bind (hcmp j q.1 v q.2 _ _ _ hP h2 ?_)))))
      refine wpAny_bind (wpAny_holding (wpAny_truthy_bool (wpAny_bind (wpAny_letGo (wpAny_pure ?_)))))
      by_cases hg : val j > val q.1
      · rw [if_pos (show (fun i j => decide (val i > val j)) j q.1 = true from decide_eq_true hg)]
        refine wpAny_bind (wpAny_updateSeq at2 rfl (wpAny_bind (wpAny_letGo ?_)))
        rw [nm]
        refine wpAny_pure ⟨plainId_quiet F.plain_max_loop _, again _ (some (j, v)) _ (W.frame _ s1 _ s1.toks hst1 (Nat.le_refl _) fun b hbf o e => (Heap.get?_update_other _ _ (fun z : S = b => hS (z ▸ hbf))).trans e) ⟨Nat.lt_succ_self _, hP, fun i hi => ?_⟩ (Heap.get?_update_self _ at2 rfl) ((hm.mono inS).then_heap (tk := s1.toks) (Nat.le_refl _) fun b o hb e => (Heap.get?_update_other _ _ (neS hb)).trans e)⟩
        by_cases hi2 : i < j
        · have := h3 i hi2
          show val i ≤ val j
          omega
        · have : i = j := by omega
          rw [this]
          exact Int.le_refl _
      · rw [if_neg (show ¬ (fun i j => decide (val i > val j)) j q.1 = true from fun z => hg (of_decide_eq_true z))]
        refine wpAny_bind (wpAny_letGo ?_)
        rw [nm]
        refine wpAny_pure ⟨plainId_quiet F.plain_max_loop _, again s1 (some q) ep hst1 ⟨by omega, h2, fun i hi => ?_⟩ at1 (hm.mono inS)⟩
        by_cases hi2 : i < j
        · exact h3 i hi2
        · have : i = j := by omega
          rw [this]
          omega
end
end Fl
namespace Fl
open PySem PySem.Spec PyProof.Rows L2
section
variable {prog : Program} {w : World} {A : Around} {E : Value → Shared → Prop} {s : Shared}
theorem mx_args (a d : Value) : argsOk "max" ⟨[a], [("default", d)]⟩ := by
  unfold argsOk
  kernel_rfl
theorem mx_bind (d : Value) : Builtin.Builtins.bindParams "max" ["key", "default"] 0 ⟨[], [("default", d)]⟩ = pure [none, some d] := by first | rfl | kernel_rfl
theorem mx_kw {l : Addr} {xs : Array (Int × Tok)} {d : Value} {Q : Value → Shared → Prop} (hh : A.handled = none) (hl : s.heap.IsList l (intItems xs))
    (h : ∀ v h' tk, ((xs.size = 0 ∧ v = d) ∨ ∃ i, i < xs.size ∧ (intItems xs)[i]? = some v ∧ ∀ j, j < xs.size → numAt xs j ≤ numAt xs i) → (∀ b o, s.heap.get? b = some o → h'.get? b = some o) → Q v { s with heap := h', toks := tk }) :
    wpAny (model prog w) A (call (.builtin "max") [.ref l] [("default", d)]) Q E s := by
  have nm : (toString "max" ++ toString ".loop" : String) = "max.loop" := by decide
  have body : wpAny (model prog w) A.in1 (Builtin.«max» ⟨[.ref l], [("default", d)]⟩) (fun fin s' => match fin with
      | .done f => (match (Except.ok f : Result) with | .ok (.ret v) => Q v s' | .ok _ => False | .error e => E e s')
      | .again c' => c'.quiet = true ∧ codeAny (model prog w) A c' (fun r s' => match r with | .ok (.ret v) => Q v s' | .ok _ => False | .error e => E e s') s') E s := by
    show wpAny _ A.in1 (Builtin.Builtins.bindParams "max" ["key", "default"] 0 ⟨[], [("default", d)]⟩ >>= _) _ _ s
    refine wpAny_bind (wpAny_of_eq (mx_bind d) (wpAny_bind (wpAny_pure (wpAny_bind (iter_intList hl fun s₂ e st hfp hlI => wpAny_bind (wpAny_newObj_type ?_))))))
    subst e
    have hSf : (s.heap.push { cls := .type "list_iterator", data := .fields #[.ref l, .int 0 0] }).objs.size ∉ [s.heap.objs.size, l] := fun hm => Nat.lt_irrefl _ (hfp _ hm)
    have W := (Walks.list (prog := prog) (w := w) (A := A.in1) hh s.heap.objs.size l hlI (intItems xs)).toS
    rw [nm]
    refine wpAny_pure ⟨plainId_quiet F.plain_max_loop _, mx_go (val := numAt xs) W (CmpOf.ints_gt (numAt xs) fun _ _ => intItems_at) hSf _ 0 _ none 0 rfl (Nat.zero_le _) (W.frame 0 _ _ s.toks st (Nat.le_refl _) fun b _ o e => Heap.get?_push_of_some _ e) rfl (Heap.get?_push_size _ rfl) fun v s1 hE hm => ?_⟩
    have sz : (intItems xs).size = xs.size := by simp [intItems]
    rw [sz] at hE
    have eg : s1.gens = s.gens := hm.gens
    have ed : s1.drawn = s.drawn := hm.drawn
    have eo : s1.os = s.os := hm.os
    obtain ⟨h1, g1, d1, t1, o1⟩ := s1
    obtain rfl : g1 = s.gens := eg
    obtain rfl : d1 = s.drawn := ed
    obtain rfl : o1 = s.os := eo
    refine h v h1 t1 ?_ fun b o e => hm.heap b o ?_ (Heap.get?_push_of_some _ (Heap.get?_push_of_some _ e))
    · rcases hE with ⟨a, b⟩ | ⟨i, a, b, c⟩
      · exact .inl ⟨a, b⟩
      · exact .inr ⟨i, a, b, c⟩
    · have hlt := Heap.lt_size e
      intro hb
      rcases List.mem_cons.mp hb with z | z
      · rw [z, Heap.size_push] at hlt
        exact Nat.lt_irrefl _ (Nat.lt_trans hlt (Nat.lt_succ_self _))
      · rw [List.mem_singleton.mp z] at hlt
        exact Nat.lt_irrefl _ hlt
  refine wpAny_call (codeAny_call_builtin F.plain_max F.entry_max ?_)
  simp only [checkBuiltinCall, F.kind_max]
  cases hsig : Manifest.signature? "max" with
  | none => exact wpAny_pure body
  | some sig =>
    have ha : Bind.checkArgs "max" sig ⟨[.ref l], [("default", d)]⟩ = pure () := by simpa only [argsOk, hsig] using mx_args (.ref l) d
    simp only [ha]
    exact wpAny_pure body
end
section
variable {X : Cx} {a b : Expr} {Γ : Gm} {S : HS} {pos : Pos} {xs : List Int} {d : Int}
def rMxD (K : PySem.W.Frag) : List V → List V → Hp → VK → Prop := fun vs zs H Q => ∃ (a : Addr) (ns : List Int) (d : Int), vs = [V.ref a] ∧ zs = [V.int d] ∧ SqL K H a (ns.map V.int) ∧ ∀ m : Int, ((ns = [] ∧ m = d) ∨ (m ∈ ns ∧ ∀ y ∈ ns, y ≤ m)) → Q (.int m) H
theorem cr_mxD (hc : X.calm = true) : CallRK X (.builtin "max") ["default"] (rMxD X.K) := by
  intro pins s σ H vs zs us ws Q I r1 r2 h
  obtain ⟨a, ns, d, rfl, rfl, hs, q⟩ := h
  obtain ⟨its, rv, hl, _⟩ := I.list hs
  rw [Vals.ref1 r1]
  cases r2 with
  | cons rd r2 =>
    cases r2
    obtain ⟨td, rfl⟩ := rd
    obtain ⟨ys, e⟩ := rv.ints.allInts.items
    have hn : numsOf (intItems ys).toList = ns := by rw [← e]; exact rv.ints.numsOf
    rw [nums_intItems] at hn
    have hl2 := hl.isList
    rw [e] at hl2
    refine mx_kw (I.ok.hd hc) hl2 fun v h' tk hv hk => ?_
    rcases hv with ⟨h0, rfl⟩ | ⟨i, hi, hat, hle⟩
    · refine ⟨.int d, H, I.kept hk, ⟨_, rfl⟩, q d (.inl ⟨?_, rfl⟩)⟩
      rw [← hn]
      exact List.map_eq_nil_iff.mpr (List.eq_nil_of_length_eq_zero (by rw [Array.length_toList]; exact h0))
    · obtain ⟨t, rfl⟩ := intItems_at hat
      refine ⟨.int _, H, I.kept hk, ⟨_, rfl⟩, q _ (.inr ⟨?_, fun y hy => ?_⟩)⟩
      · rw [← hn, numAt_eq]
        exact PySem.getD_mem (by rw [List.length_map, Array.length_toList]; omega)
      · rw [← hn] at hy
        obtain ⟨j, hj, rfl⟩ := mem_getD hy
        rw [List.length_map, Array.length_toList] at hj
        rw [← numAt_eq]
        exact hle j (by omega)
end
end Fl

set_option Elab.async false
set_option linter.all false
set_option maxRecDepth 100000
set_option maxHeartbeats 4000000
namespace Fl
open PySem PySem.Spec PyProof.Rows L2
/-! ### what changes one object -/
section
variable {α : Type} [Rp α] {X : Cx} {e a c : Expr} {Γ : Gm} {S : HS} {pos pos' : Pos} {p : Addr} {B : HS → Prop} {D : Ends} {rest : List Stmt} {P : α → Prop}
def EU {α : Type} [Rp α] (B : HS → Prop) (X : Cx) (e : Expr) (Γ : Gm) (S : HS) (p : Addr) (P : α → Prop) : Prop :=
  ∀ σ, Slots S.G σ Γ → ∀ S1, Grow S S1 → B S1 → ∀ Q : VK, (∀ S2 v y, Upd S1 p S2 → B S2 → Rp.rep S2.G v y → P y → Q v S2.H) → wE X e σ S1.H Q
def TU (B : HS → Prop) (X : Cx) (e : Expr) (Γ : Gm) (S : HS) (p : Addr) (b : Bool) : Prop :=
  ∀ σ, Slots S.G σ Γ → ∀ S1, Grow S S1 → B S1 → ∀ Q : Bool → Hp → Prop, (∀ S2, Upd S1 p S2 → B S2 → Q b S2.H) → wT X e σ S1.H Q
theorem tu_bool {b : Bool} (h : EU B X e Γ S p (fun y : Bool => y = b)) (he : ∀ whole, isTrue e X.env whole = (do let v ← whole; standAt e.pos; holding [v] (truthy v)) := by intro _; rfl) : TU B X e Γ S p b :=
  fun σ hσ S1 g hB Q k => w_pt (pt_val pe_w he) (h σ hσ S1 g hB _ fun S2 v y u hB2 r hy => ⟨b, (hy ▸ r : Rp.rep S2.G v b), k S2 u hB2⟩)
theorem tu_not {b : Bool} (h : TU B X e Γ S p b) : TU B X (.UnaryOp .Not e pos) Γ S p (!b) := fun σ hσ S1 g hB Q k => w_pt (pt_not pt_w) (h σ hσ S1 g hB _ fun S2 u hB2 => k S2 u hB2)
theorem s_ifU {body els : List Stmt} {t : Bool} (hB : B S) (h : TU B X c Γ S p t) (h1 : t = true → ∀ S1, Upd S p S1 → B S1 → SB X body { D with nx := fun σ' H' => wB X rest D σ' H' } Γ S1)
    (h2 : t = false → ∀ S1, Upd S p S1 → B S1 → SB X els { D with nx := fun σ' H' => wB X rest D σ' H' } Γ S1) : SB X (.If c body els pos :: rest) D Γ S := fun σ hσ =>
  w_cons (w_ps (ps_if pt_w pss_w pss_w) (h σ hσ S (.refl _) hB _ fun S2 u hB2 => by
    cases t with
    | true => exact iteT (h1 rfl S2 u hB2 σ (hσ.mono u.g))
    | false => exact iteF (h2 rfl S2 u hB2 σ (hσ.mono u.g))))
theorem s_setU (i : Nat) {nm : Str} (hN : X.N.Nodup) (hB : B S) (h : EU B X e Γ S p P) (k : ∀ S1 y, Upd S p S1 → B S1 → P y → SB X rest D (Γ.set i (some ⟨y⟩)) S1)
    (hi : X.N[i]? = some nm := by rfl) (hx : Loc X.env.scope nm := by first | exact Or.inl rfl | exact Or.inr rfl) (hs : swapsWith e (some (.Name nm pos')) pos.line X.env = pure false := by rfl)
    (hf : X.fn nm = true ∨ X.env.scope.names.lookup nm = some .local := by first | exact .inl rfl | exact .inr rfl) : SB X (.Assign [.Name nm pos'] e pos :: rest) D Γ S := fun σ hσ =>
  w_cons (w_ps (ps_set hN hi hx pe_w hs hf) (h σ hσ S (.refl _) hB _ fun S2 v y u hB2 r q => k S2 y u hB2 q _ ((hσ.mono u.g).set i (t := ⟨y⟩) r)))
theorem s_retU (hB : B S) (h : EU B X e Γ S p P) (k : ∀ S1 v y, Upd S p S1 → B S1 → Rp.rep S1.G v y → P y → D.rt v S1.H) : SB X (.Return (some e) pos :: rest) D Γ S := fun σ hσ =>
  w_cons (w_ps (ps_ret pe_w) (h σ hσ S (.refl _) hB _ fun S2 v y u hB2 r q => k S2 v y u hB2 r q))
theorem s_asgU {tg : Expr} {f : Gm → α → Gm} (hB : B S) (h : EU B X e Γ S p P) (hg : BG X tg f) (k : ∀ S1 y, Upd S p S1 → B S1 → P y → SB X rest D (f Γ y) S1)
    (hs : swapsWithSole [tg] e pos.line X.env = pure false := by rfl) (hw : swappedStores [tg] e X.env = pure none := by rfl) (h1 : (assignEach [tg] X.env).map (·.2) = [assign tg X.env] := by rfl) : SB X (.Assign [tg] e pos :: rest) D Γ S := fun σ hσ => by
  obtain ⟨t, ht, kt⟩ := hg
  exact w_cons (w_ps (ps_asg pe_w ht hs hw h1) (h σ hσ S (.refl _) hB _ fun S2 v y u hB2 r q => kt σ Γ S2 v y (hσ.mono u.g) r _ fun σ' h' => k S2 y u hB2 q σ' h'))
end
section
variable [c : Ctx]
def wC : Addr := He.codeOf c.K ("whole_problem", none)
def wP : Addr := He.tabOf c.K (wC (c := c))
/-- the table of whole_problem -/
def TB (S : HS) : Prop := S.G (wP (c := c)) = none ∧ GxR.TabG S.H (wP (c := c))
theorem TB.there {S : HS} (h : TB S) : S.H (wP (c := c)) ≠ none := by
  obtain ⟨_, ps, e, _⟩ := h
  rw [e]
  exact fun z => nomatch z
theorem TB.up {S S1 : HS} (h : TB S) (g : Grow S S1) : TB S1 := by
  obtain ⟨h1, ps, e, ht⟩ := h
  exact ⟨g.n _ (by rw [e]; exact fun z => nomatch z) h1, ps, g.h _ _ e, ht⟩
/-- from arguments that mean a: a value that means some y; the table may grow -/
def SpT {α β : Type} [Args α] [Rp β] (pre : α → Prop) (post : α → β → Prop) : Sp := fun vs H Q _ =>
  ∃ (S : HS) (a : α), S.H = H ∧ Args.reps S.G vs a ∧ pre a ∧ TB S ∧ ∀ (S1 : HS) (r : V) (y : β), Upd S (wP (c := c)) S1 → TB S1 → Rp.rep S1.G r y → post a y → Q r S1.H
section
variable {α β : Type} [Args α] [Rp β] {pre : α → Prop} {post : α → β → Prop}
abbrev BodyT (d : He.DefD) (N : List Str) (k : Nat) (pre : α → Prop) (post : α → β → Prop) : Prop :=
  ∀ (f : Addr) (cdv : Value) (A : Around) (outer : List Env) (s : Shared) (S : HS) (a : α) (Q : VK) (E : XK), pre a → TB S → InC k (bx d N f cdv A outer s S.H E) → (∀ (S1 : HS) (r : V) (y : β), Upd S (wP (c := c)) S1 → TB S1 → Rp.rep S1.G r y → post a y → Q r S1.H) →
    SB (bx d N f cdv A outer s S.H E) d.body { nx := fun _ H' => Q .non H', rt := Q } (Args.gm a (N.length - Args.num α)) S
theorem mkCalT {d : He.DefD} (i : Nat) {nm : Str} {N ps : List Str} {k : Nat} (sc : FnScope N ps d.scope) (hg : c.mg nm = some (.ref (He.ga c.K nm))) (body : BodyT d N k pre post) (hi : fn[i]? = some d := by rfl) (hat : d.at_ = (nm, none) := by rfl) (hdf : d.dfl = [] := by rfl) (hkw : d.kwd = [] := by rfl) (hnum : Args.num α = ps.length := by rfl)
    (hb : ∀ (kV doc pm : Value) (an : Option Addr) (cdv ct : Value) (us : List Value), us.length = ps.length → bindArgs (PySem.W.fnOf d.name d.qual d.params d.body d.scope .none kV doc pm an cdv ct) ⟨us, []⟩ = pure (ps.zip us)) : Cal nm (k + 1) (SpT pre post) := by
  obtain ⟨fd, F⟩ := c.says.d.def_ i hi
  have F' : FunD c.K d.name d.qual d.params d.body d.scope [] [] (He.fAd c.K d.at_) fd := by
    have e1 : d.dvs c.K = [] := by unfold He.DefD.dvs; rw [hdf]; rfl
    have e2 : d.kws c.K = [] := by unfold He.DefD.kws; rw [hkw]; rfl
    rw [e1, e2] at F
    exact F
  have e : He.fAd c.K d.at_ = He.ga c.K nm := by rw [hat]; rfl
  rw [e] at F'
  refine ⟨_, fd, ps, F'.ok sc (fun vs H Q E h => ?_) (fun cdv A outer s H vs Q E hr h => ?_), hg, F'.kp, F'.bindsN hb⟩
  · obtain ⟨S, a, _, hr, _⟩ := h
    rw [Args.len hr, hnum]
  · obtain ⟨S, a, rfl, ha, hp, hT, hq⟩ := h
    refine ⟨_, PSs.nox pss_w, ?_⟩
    have hs : Slots S.G (L2.start N vs) (Args.gm a (N.length - Args.num α)) := by
      unfold L2.start
      rw [Args.len ha]
      exact Args.sl ha
    exact body _ cdv A outer s S a Q E hp hT (inC_bx hr) hq _ hs
end
section
variable {α β : Type} [Args α] [Rp β] {pre : α → Prop} {post : α → β → Prop} {X : Cx} {e : Expr} {es : List Expr} {Γ : Gm} {S : HS} {pos : Pos}
theorem eu_call {k j : Nat} {nm : Str} {p : Pos} {u : α} [hX : InC k X] (C : Cal nm j (SpT pre post)) (ha : AR X (e :: es) Γ S u) (hp : pre u) (hj : j ≤ k := by decide) (hg : Gl X nm := by rfl) (hdb : (nm == ("__debug__" : Str)) = false := by decide)
    (he : starEach (e :: es) X.env = (false, eval e X.env) :: starEach es X.env := by rfl) (hpl : (backTo pos (starEach es X.env)).any (·.1) = false := by rfl) : EU TB X (.Call (.Name nm p) (e :: es) [] pos) Γ S (wP (c := c)) (post u) := fun σ hσ S1 g hB Q kk => by
  obtain ⟨f, fd, ps, F, hm, hk, hb⟩ := C.ex
  refine w_pe (pe_call (fn_in hX F) (hX.room.mono hj) hg (by rw [hX.mg]; exact hm) (by rw [hX.K]; exact hk) (by rw [hX.K]; exact hb) .nil pass0 pa_w hdb he hpl) (ha σ hσ S1 g _ fun S2 vs g2 r => ?_)
  exact ⟨S2, u, rfl, by rw [List.append_nil]; exact r, hp, hB.up g2, fun S3 v y u3 h3 r3 p3 => kk S3 v y (u3.after g2) h3 r3 p3⟩
end
end
end Fl

set_option Elab.async false
set_option linter.all false
set_option maxRecDepth 100000
set_option maxHeartbeats 4000000
namespace Fl
open PySem PySem.Spec PyProof.Rows L2
section
variable [c : Ctx]
/-- is_door(tile), within the generator -/
theorem door_elt {B : Heap} (M : L2.Mod c.K c.mg B) {D U : Nat} (hD : D < recursionLimit) {scope : Scope} {p1 p2 p3 : Pos} (hk : scope.kind = .function) (hd : scope.names.lookup ("is_door" : Str) = some .globalImplicit) (ht : scope.names.lookup ("tile" : Str) = some .local) :
    EltQ PP c.w B D U scope "tile" (.Call (.Name "is_door" p1) [.Name "tile" p2] [] p3) (fun ch => doorT ⟨#[ch]⟩) := by
  intro en A1 E1 ch tk s2 m2 hsc hgl hA hdp hun hn hm hkp
  obtain ⟨fd, F⟩ := c.says.d.def_ i_is_door (d := d_is_door) rfl
  obtain ⟨oc, od, dV, kV, doc, pm, an, cdv, ct, osl, rfl, lk, hcd, hdf, hkd⟩ := F.ex
  have efa : He.fAd c.K d_is_door.at_ = He.ga c.K "is_door" := rfl
  rw [efa] at lk
  have gN : s2.heap.Ns mainGlobals c.mg := M.glob.keeps hkp
  have kin : c.K.In s2.heap := M.kin.keeps hkp
  have nol : s2.heap.NoLimit := M.nolimit.keeps hkp
  obtain ⟨t1, k1⟩ := k_SMALL_LETTERS (c := c)
  have dV0 : dV = .none := by
    rcases hdf with ⟨_, h⟩ | ⟨h, _⟩
    · exact h
    · exact absurd rfl h
  subst dV0
  refine wpAny_Call_Name_kw (Calls.Name_function_global (by rw [hsc]; exact hk) (show en.scope.names.lookup _ = _ by rw [hsc]; exact hd) (Calls.loadGlobal_global (env := en) (by rw [hgl]; exact gN) g_is_door ?_) (by decide))
  refine PySem.W.callWith_K (h₀ := B) M.kin F.kp (Calls.spliced_cons (wpAny_Name (wpAny_loadName_local (by rw [hsc]; exact hk) (show en.scope.names.lookup _ = _ by rw [hsc]; exact ht) hn hm (Calls.spliced_nil ⟨kin, ?_⟩)) (by decide))) rfl rfl
  refine wpAny_call (codeAny_call_def (body := defBody s_is_door) (binds := [("tile", .str ⟨#[ch]⟩ tk)]) (by omega) (kin _ _ lk) rfl nol (PySem.W.codeRec_of kin hcd) rfl (.of_eq rfl) (show ∀ x ∈ (defScope s_is_door).names, x.2 ≠ NameKind.cell by decide +kernel) (fun x hx => by rw [List.mem_singleton.mp hx]; rfl) (fun h0 hns0 hk0 => ?_) rfl rfl rfl)
  have gN0 : h0.Ns mainGlobals c.mg := gN.keeps hk0
  have ns0 : (([("tile", Value.str ⟨#[ch]⟩ tk)] : List (Str × Value)).reverse.lookup ("tile" : Str)) = some (.str ⟨#[ch]⟩ tk) := rfl
  refine wpAny_execs_cons (wpAny_Return_some (BoolOp_or (wpAny_Compare1 (wpAny_Name (wpAny_loadName_local rfl rfl hns0 ns0 (Calls.Constant_str (PyProof.Rows.eq_str (wpAny_truthy_bool ?_)))) (by decide)))))
  by_cases hb : (⟨#[ch]⟩ : Str) = "+"
  · have e1 : ((⟨#[ch]⟩ : Str) == "+") = true := beq_iff_eq.mpr hb
    have e2 : doorT ⟨#[ch]⟩ = true := by unfold doorT; rw [decide_eq_true hb]; rfl
    rw [e1]
    exact ⟨(congrArg Value.bool e2).symm, h0, _, rfl, hk0⟩
  · have e1 : ((⟨#[ch]⟩ : Str) == "+") = false := beq_eq_false_iff_ne.mpr hb
    have e2 : doorT ⟨#[ch]⟩ = isIn ⟨#[ch]⟩ smalls := by unfold doorT; rw [decide_eq_false hb]; rfl
    rw [e1]
    refine (show wpAny _ _ (eval (.BoolOp .Or [_] _) _) _ _ _ from BoolOp_one (wpAny_Compare1 (wpAny_Name (wpAny_loadName_local rfl rfl hns0 ns0 (Calls.Name_function_global rfl rfl (Calls.loadGlobal_global gN0 k1 (PyProof.Rows.in_str (t := t1) ?_)) (by decide))) (by decide))))
    exact ⟨(congrArg Value.bool e2).symm, h0, _, rfl, hk0⟩
end
end Fl

set_option Elab.async false
set_option linter.all false
set_option maxRecDepth 100000
set_option maxHeartbeats 4000000
namespace Fl
open PySem PySem.Spec PyProof.Rows L2
/-! ### maps as lists of rows of tiles -/
def rowS (r : List Str) : Str := Txt.join "" r
theorem tl_join0 (y : Str) (hy : TL.tl y = []) : ∀ ps : List Str, TL.tl (Txt.join y ps) = (ps.map TL.tl).flatten := fun ps => by
  rw [TL.join_eq, TL.tl_join, hy]
  induction ps with
  | nil => rfl
  | cons p r ih =>
    cases r with
    | nil => show TL.tl p = _; simp
    | cons q r =>
      show TL.tl p ++ ([] ++ TL.joinL [] ((q :: r).map TL.tl)) = _
      rw [ih, List.nil_append]
      rfl
theorem tl_row (r : List Str) : TL.tl (rowS r) = (r.map TL.tl).flatten := tl_join0 "" rfl r
def ofC (ch : Nat) : Str := ⟨#[ch]⟩
theorem signs_tl (s : Str) : signs s = (TL.tl s).map ofC := rfl
def OneS (t : Str) : Prop := ∃ ch, t = ofC ch
theorem ones_map : ∀ {r : List Str}, (∀ t ∈ r, OneS t) → (r.map TL.tl).flatten.map ofC = r
  | [], _ => rfl
  | t :: r, h => by
    obtain ⟨ch, rfl⟩ := h _ List.mem_cons_self
    rw [List.map_cons, List.flatten_cons, List.map_append, ones_map fun x hx => h x (List.mem_cons_of_mem _ hx)]
    rfl
theorem signs_row {r : List Str} (h : ∀ t ∈ r, OneS t) : signs (rowS r) = r := by
  rw [signs_tl, tl_row, ones_map h]
theorem row_len {r : List Str} (h : ∀ t ∈ r, OneS t) : (rowS r).length = r.length := by
  have := congrArg List.length (signs_row h)
  rw [signs_tl, List.length_map] at this
  rw [TL.len_tl, this]
theorem row_snoc (r : List Str) (t : Str) : rowS r ++ t = rowS (r ++ [t]) := TL.ext_tl (by
  rw [TL.tl_append, tl_row, tl_row, List.map_append, List.flatten_append]
  simp)
theorem tile_ones {r : List Str} (h : ∀ t ∈ r, t ∈ tiles8) : ∀ t ∈ r, OneS t := fun t ht => tile_one (h t ht)
structure MapOk (ts : List (List Str)) : Prop where
  n0 : ts ≠ []
  n6 : ts.length ≤ 6
  w : ∃ m, 1 ≤ m ∧ m ≤ 6 ∧ ∀ r ∈ ts, r.length = m
  t : ∀ r ∈ ts, ∀ t ∈ r, t ∈ tiles8
  d : ∃ r ∈ ts, ∃ t ∈ r, doorT t = true
  s : ∀ r ∈ ts, ∀ t ∈ r, ∀ n, stationOf t = some n → ∀ k, 0 ≤ k → k < n → ∃ r2 ∈ ts, ∃ t2 ∈ r2, stationOf t2 = some k
theorem MapOk.flat {ts : List (List Str)} (h : MapOk ts) : ∀ t ∈ ts.flatten, t ∈ tiles8 := fun t ht => by
  obtain ⟨r, hr, htr⟩ := List.mem_flatten.mp ht
  exact h.t r hr t htr
theorem flat_len {m : Nat} : ∀ {ts : List (List Str)}, (∀ r ∈ ts, r.length = m) → ts.flatten.length = ts.length * m
  | [], _ => by simp
  | r :: ts, h => by
    rw [List.flatten_cons, List.length_append, h r List.mem_cons_self, flat_len (ts := ts) (fun x hx => h x (List.mem_cons_of_mem _ hx)), List.length_cons, Nat.succ_mul]
    omega
theorem MapOk.few {ts : List (List Str)} (h : MapOk ts) : ts.flatten.length ≤ 36 := by
  obtain ⟨m, h1, h2, h3⟩ := h.w
  rw [flat_len h3]
  have := h.n6
  exact Nat.le_trans (Nat.mul_le_mul this h2) (by decide)
theorem join_rows {ts : List (List Str)} (h : ∀ r ∈ ts, ∀ t ∈ r, OneS t) : Txt.join "" (ts.map rowS) = rowS ts.flatten := TL.ext_tl (by
  rw [tl_join0 "" rfl, tl_row, List.map_map]
  induction ts with
  | nil => rfl
  | cons r ts ih =>
    rw [List.map_cons, List.flatten_cons, List.flatten_cons, List.map_append, List.flatten_append, ih fun x hx => h x (List.mem_cons_of_mem _ hx)]
    show TL.tl (rowS r) ++ _ = _
    rw [tl_row])
theorem lens_rows {m : Nat} : ∀ {ts : List (List Str)}, (∀ r ∈ ts, ∀ t ∈ r, OneS t) → (∀ r ∈ ts, r.length = m) → ((ts.map rowS).map (·.length)).sum = ts.length * m
  | [], _, _ => by simp
  | r :: ts, h, hm => by
    rw [List.map_cons, List.map_cons, List.sum_cons, row_len (h r List.mem_cons_self), hm r List.mem_cons_self, lens_rows (ts := ts) (fun x hx => h x (List.mem_cons_of_mem _ hx)) (fun x hx => hm x (List.mem_cons_of_mem _ hx)), List.length_cons, Nat.succ_mul]
    omega
def numsOfT (l : List Str) : List Int := (l.filter fun t => (stationOf t).isSome).map fun t => (stationOf t).getD 0
theorem mem_nums {l : List Str} {n : Int} : n ∈ numsOfT l ↔ ∃ t ∈ l, stationOf t = some n := by
  unfold numsOfT
  rw [List.mem_map]
  constructor
  · rintro ⟨t, ht, e⟩
    obtain ⟨h1, h2⟩ := List.mem_filter.mp ht
    obtain ⟨k, hk⟩ := Option.isSome_iff_exists.mp h2
    rw [hk] at e
    exact ⟨t, h1, by rw [hk, ← e]; rfl⟩
  · rintro ⟨t, ht, e⟩
    exact ⟨t, List.mem_filter.mpr ⟨ht, by rw [e]; rfl⟩, by rw [e]; rfl⟩
theorem it_eq {α : Type} [Rp α] {X : Cx} {tg e : Expr} {Γ : Gm} {S : HS} {s t : List α} (h : IT X tg e Γ S s) (he : s = t) : IT X tg e Γ S t := he ▸ h
def MxP (ns : List Int) (d m : Int) : Prop := (ns = [] ∧ m = d) ∨ (m ∈ ns ∧ ∀ y ∈ ns, y ≤ m)
theorem mx_ex (d : Int) : ∀ ns : List Int, ∃ m, MxP ns d m
  | [] => ⟨d, .inl ⟨rfl, rfl⟩⟩
  | x :: r => by
    obtain ⟨m, h⟩ := mx_ex d r
    rcases h with ⟨rfl, _⟩ | ⟨h1, h2⟩
    · exact ⟨x, .inr ⟨List.mem_cons_self, fun y hy => by rw [List.mem_singleton.mp hy]; exact Int.le_refl _⟩⟩
    · by_cases hx : x ≤ m
      · exact ⟨m, .inr ⟨List.mem_cons_of_mem _ h1, fun y hy => by
          rcases List.mem_cons.mp hy with rfl | hy
          · exact hx
          · exact h2 y hy⟩⟩
      · exact ⟨x, .inr ⟨List.mem_cons_self, fun y hy => by
          rcases List.mem_cons.mp hy with rfl | hy
          · exact Int.le_refl _
          · have := h2 y hy
            omega⟩⟩
theorem mx_un {ns : List Int} {d m n : Int} (h : MxP ns d m) (k : MxP ns d n) : m = n := by
  rcases h with ⟨a, b⟩ | ⟨a, b⟩ <;> rcases k with ⟨e, f⟩ | ⟨e, f⟩
  · omega
  · rw [a] at e; cases e
  · rw [e] at a; cases a
  · have := b _ e
    have := f _ a
    omega
theorem er_maxD {X : Cx} {a b : Expr} {Γ : Gm} {S : HS} {pos p kp : Pos} {ns : List Int} {d m : Int} (hc : X.calm = true) (hm : X.mg "max" = none) (h : MxP ns d m) (ha : ER X a Γ S ns) (hb : ER X b Γ S d) (hg : Gl X "max" := by rfl)
    (he : backTo pos (starEach [a] X.env) = (false, eval a X.env) :: backTo pos (starEach [] X.env) := by rfl) (hpl : (backTo pos (starEach [a] X.env)).any (·.1) = false := by rfl) (hs : starEach [a] X.env = [(false, eval a X.env)] := by rfl)
    (hall : (backToKw pos (keywordEach [⟨some "default", b, kp⟩] X.env)).all (·.1.isSome) = true := by rfl) (hno : (backToKw pos (keywordEach [⟨some "default", b, kp⟩] X.env)).any (·.1.isNone) = false := by rfl) (hks : (backToKw pos (keywordEach [⟨some "default", b, kp⟩] X.env)).filterMap (·.1) = ([("default" : Str)] : List Str) := by rfl) :
    ER X (.Call (.Name "max" p) [a] [⟨some "default", b, kp⟩] pos) Γ S m := fun σ hσ S1 g Q k =>
  w_pe (pe_callBK (cr_mxD hc) hg hm (by decide +kernel) (pa_cons pe_w pa_nil hs) (pk_cons pe_w pk_nil) (by decide) (by decide) he hpl hall hno hks) (ha σ hσ S1 g _ fun S2 u g2 ⟨q, vs, e1, e2, r⟩ => hb σ hσ S2 (g.trans g2) _ fun S3 v g3 rv =>
    ⟨q, ns, d, by rw [e1], by rw [show v = V.int d from rv], SqL.of (by rw [← r.int]; exact S3.le _ _ (g3.g _ _ e2)), fun z hz => by rw [mx_un h hz] at *; exact k S3 _ (g2.trans g3) rfl⟩)
section
variable [c : Ctx]
theorem wgen_any {f : Addr} {A : Around} {outer : List Env} {s : Shared} {H : Hp} {E : XK} {k : Nat} {e : Expr} {Γ : Gm} {S : HS} {tx : Str} {cdv : Value} {px p pos gpos p1 p2 p3 : Pos} {scope : Scope} (hcd : cdv = .ref (wC (c := c))) (hX : InC (k + 1) (bx d_whole_problem N_whole_problem f cdv A outer s H E))
    (he : ER (bx d_whole_problem N_whole_problem f cdv A outer s H E) e Γ S tx) (hk : scope.kind = .function) (hd : scope.names.lookup ("is_door" : Str) = some .globalImplicit) (ht : scope.names.lookup ("tile" : Str) = some .local) (S2 : GxR.GenS (bx d_whole_problem N_whole_problem f cdv A outer s H E).env scope "tile")
    (hs : ∀ v, genFold e (bx d_whole_problem N_whole_problem f cdv A outer s H E).env v = pure v) :
    EU TB (bx d_whole_problem N_whole_problem f cdv A outer s H E) (.Call (.Name "any" p) [.GeneratorExp (.Call (.Name "is_door" p1) [.Name "tile" p2] [] p3) [⟨.Name "tile" px, e, [], 0⟩] scope gpos] [] pos) Γ S (wP (c := c)) (fun y : Bool => y = (TL.tl tx).any fun ch => doorT (ofC ch)) := fun σ hσ S1 g hB Q kk => by
  refine w_pe (pe_anyQ (c := wC) (P := wP) (pb := fun ch => doorT (ofC ch)) hX.room rfl b_any c.tb (by subst hcd; rfl) S2 pe_w (fun M => door_elt M (by have := hX.room.dp; omega) hk hd ht) hs) (he σ hσ S1 g _ fun S3 v g3 rv => ⟨tx, rv, (hB.up g3).2, fun H2 hT => ?_⟩)
  obtain ⟨⟨ps, e1, ht1⟩, hsm⟩ := hT
  have n3 : S3.G wP = none := (hB.up g3).1
  have eH : H2 = (S3.add wP (.tbl ps) n3).H := by
    funext b
    by_cases hb : b = wP
    · rw [hb]
      exact e1.trans upd_same.symm
    · exact (hsm b hb).trans (upd_ne hb).symm
  rw [eH]
  exact kk _ _ _ ((Upd.add n3).after g3) ⟨n3, ps, upd_same, ht1⟩ rfl rfl
/-- whole_problem(rows) -/
theorem cal_whole_problem : Cal "whole_problem" 3 (SpT (fun a : List Str × Unit => ∃ ts, MapOk ts ∧ a.1 = ts.map rowS) fun _ (y : Str) => y = "") := by
  obtain ⟨fd, F⟩ := c.says.d.def_ i_whole_problem (d := d_whole_problem) rfl
  obtain ⟨oc, od, dV, kV, doc, pm, an, cdv, ct, osl, rfl, lk, hcd, hdf, hkd⟩ := F.ex
  obtain ⟨ca, rfl⟩ := He.codeIn_ref hcd
  have eca : ca = wC (c := c) := (He.codeOf_eq lk rfl).symm
  subst eca
  have hb : Binds c.K (PySem.W.fnOf d_whole_problem.name d_whole_problem.qual d_whole_problem.params d_whole_problem.body d_whole_problem.scope dV kV doc pm an (.ref wC) ct) ["rows"] [] := FunD.bindsN F fun _ _ _ _ _ _ us hl => match us, hl with | [_], _ => rfl
  refine ⟨_, _, ["rows"], fn_of lk hcd sc_whole_problem (fun vs H Q E ⟨S, a, _, hr, _⟩ => Args.len hr) (fun A outer s H vs Q E hr ⟨S, a, eS, ha, hp, hT, hq⟩ => ⟨_, PSs.nox pss_w, ?_⟩), g_whole_problem, F.kp, hb⟩
  subst eS
  have hX : InC 2 (bx d_whole_problem N_whole_problem (He.fAd c.K d_whole_problem.at_) (.ref wC) A outer s S.H E) := inC_bx hr
  obtain ⟨rows, ⟨⟩⟩ := a
  obtain ⟨ts, ok, rfl⟩ : ∃ ts, MapOk ts ∧ rows = ts.map rowS := hp
  have hs0 : Slots S.G (L2.start N_whole_problem vs) [some ⟨ts.map rowS⟩, none, none, none, none] := by
    unfold L2.start
    rw [Args.len ha]
    exact Args.sl ha
  refine (show SB (bx d_whole_problem N_whole_problem (He.fAd c.K d_whole_problem.at_) (.ref wC) A outer s S.H E) _ _ [some ⟨ts.map rowS⟩, none, none, none, none] S from ?_) _ hs0
  have nd := sc_whole_problem.nd
  have ones : ∀ r ∈ ts, ∀ t ∈ r, OneS t := fun r hr => tile_ones (ok.t r hr)
  have fones : ∀ t ∈ ts.flatten, OneS t := tile_ones ok.flat
  obtain ⟨m, m1, m6, hm⟩ := ok.w
  have n6 := ok.n6
  have few := ok.few
  have hsum := lens_rows ones hm
  have hsz : ts.length * m ≤ 36 := Nat.le_trans (Nat.mul_le_mul n6 m6) (by decide)
  have z100 : 10000 ≤ sizeLine := by decide
  refine s_if (t := false) (tr_eq (tr_not (tr_list (xs := ts.map rowS) (er_var 0))) (by cases ts with | nil => exact absurd rfl ok.n0 | cons r rr => rfl)) (fun t => nomatch t) (fun _ S1 g1 => s_end ?_)
  refine s_set (x := rowS ts.flatten) 1 nd (er_eq (er_join er_str (er_var 0) (by rw [hsum, List.length_map]; show _ + ts.length * 0 ≤ _; omega)) (join_rows ones)) fun S2 g2 => ?_
  have T2 : TB S2 := hT.up (g1.trans g2)
  have hdoor : ((TL.tl (rowS ts.flatten)).any fun ch => doorT (ofC ch)) = true := by
    obtain ⟨r, hr, t, ht, hd⟩ := ok.d
    have e := signs_row fones
    rw [signs_tl] at e
    have hmem : t ∈ (TL.tl (rowS ts.flatten)).map ofC := by rw [e]; exact List.mem_flatten.mpr ⟨r, hr, ht⟩
    obtain ⟨ch, hc, rfl⟩ := List.mem_map.mp hmem
    exact List.any_eq_true.mpr ⟨ch, hc, hd⟩
  refine s_ifU (t := false) T2 (tu_not (b := true) (tu_bool (fun σ hσ S1 g hB Q k => wgen_any (k := 1) (tx := rowS ts.flatten) rfl hX (er_var 1) rfl rfl rfl ⟨rfl, rfl, by decide +kernel, rfl, rfl, by intro y hy e; simp at hy; rcases hy with rfl | rfl | rfl <;> cases e⟩ (fun _ => rfl) σ hσ S1 g hB Q fun S2 v y u hB2 r hy => k S2 v y u hB2 r (by rw [hy, hdoor])))) (fun t => nomatch t) (fun _ S3 u3 T3 => s_end ?_)
  have u03 : Upd S wP S3 := u3.after (g1.trans g2)
  refine s_setLcI (p := fun t => (stationOf t).isSome) (h := fun t => (stationOf t).getD 0) (xs := ts.flatten) 3 2 rfl nd (it_eq (it_str (er_var 1)) (signs_row fones)) (by omega) (blkOk_by (N := N_whole_problem) (sc := defScope s_whole_problem) (by decide +kernel)) (fun x hx S2 g2 X' hb => ?_) (fun x hx hp S2 g2 X' hb => ?_) (fun S4 q g4 hq4 m4 => ?_) (sw_true rfl rfl rfl (by decide +kernel))
  · obtain ⟨_, _, _, _, _, rfl⟩ := hb
    exact tr_cmp (cv_notN (er_call cal_station_of (u := (x, ())) (ar_cons (er_var 2) ar_nil) trivial))
  · obtain ⟨_, _, _, _, _, rfl⟩ := hb
    obtain ⟨n, hn⟩ := Option.isSome_iff_exists.mp hp
    rw [hn]
    exact er_out (x := n) (er_eq (er_call cal_station_of (u := (x, ())) (ar_cons (er_var 2) ar_nil) trivial) hn)
  have u04 : Upd S wP S4 := u03.trans (g4.toUpd _) T3.there
  have T4 := T3.up g4
  refine SB.fixM 3 g4 hq4 m4 fun S5 e5 g5 s5 hn5 => ?_
  have hpw : wP (c := c) ≠ q := fun z => T3.there (by rw [z]; exact hq4)
  have T5 : TB S5 := ⟨hn5 _ hpw T4.1, by rw [e5]; exact T4.2⟩
  have u05 : Upd S wP S5 := ⟨u04.g.trans s5, fun b hb o e => by rw [e5]; exact u04.h b hb o e, fun b h1 h2 => by
    by_cases hb : b = q
    · subst hb
      exact absurd (u03.h b (Ne.symm hpw)) (fun z => by
        cases e : S.H b with
        | none => exact h1 e
        | some o => have := z o e; rw [hq4] at this; cases this)
    · exact hn5 b hb (u04.n b h1 h2)⟩
  have fin : ∀ (S6 : HS) (v : V), Grow S5 S6 → Rp.rep S6.G v ("" : Str) → Q v S6.H := fun S6 v g6 r => hq S6 v "" (u05.trans (g6.toUpd _) T5.there) (T5.up g6) r rfl
  show SB _ _ _ [some ⟨ts.map rowS⟩, some ⟨rowS ts.flatten⟩, none, some ⟨numsOfT ts.flatten⟩, none] S5
  obtain ⟨mx, hmx⟩ := mx_ex (-1) (numsOfT ts.flatten)
  have st3 : ∀ n, n ∈ numsOfT ts.flatten → 0 ≤ n ∧ n < 3 := fun n hn => by
    obtain ⟨t, ht, e⟩ := mem_nums.mp hn
    exact (tile_f (ok.flat t ht)).st n e
  have hmb : -1 ≤ mx ∧ mx < 3 := by
    rcases hmx with ⟨_, h⟩ | ⟨h, _⟩
    · omega
    · have := st3 _ h
      omega
  refine s_search (α := Int) (xs := rangeI 0 (mx + 1).toNat) (fun _ => false) PassesOwn.never rfl (it_range (j := mx + 1) b_range (er_add (er_maxD rfl b_max hmx (er_var 3) (er_neg (i := 1) er_int)) er_int) (by omega)) (bg_name 4 nd) (fun x => .keep (.keep (.keep (.keep (.drop .nil))))) (fun n hn S6 g6 => ?_) (fun n hn hf S6 g6 D' hD => ?_) (fun hf S6 g6 => ?_)
  · have hr := mem_rangeI.mp hn
    have hin : n ∈ numsOfT ts.flatten := by
      rcases hmx with ⟨_, h⟩ | ⟨h, _⟩
      · omega
      · by_cases e : n = mx
        · rw [e]; exact h
        · obtain ⟨t, ht, et⟩ := mem_nums.mp h
          obtain ⟨r, hr1, hr2⟩ := List.mem_flatten.mp ht
          obtain ⟨r2, hr2', t2, ht2, e2⟩ := ok.s r hr1 t hr2 mx et n (by omega) (by omega)
          exact mem_nums.mpr ⟨t2, List.mem_flatten.mpr ⟨r2, hr2', ht2⟩, e2⟩
    exact tr_eq (tr_cmp (cv_niL (xs := numsOfT ts.flatten) (er_var 4) (er_var 3))) (by rw [decide_eq_true hin]; rfl)
  · cases List.find?_some hf
  · exact s_ret er_str fun S7 v g7 r => fin S7 v (g6.trans g7) r
end
end Fl

set_option Elab.async false
set_option linter.all false
set_option maxRecDepth 100000
set_option maxHeartbeats 4000000
namespace Fl
open PySem PySem.Spec PyProof.Rows L2
section
variable {α : Type} [Rp α] {X : Cx} {e : Expr} {Γ : Gm} {S : HS} {pos : Pos} {D : Ends} {rest : List Stmt} {p : Addr}
/-- a list that may change, as an argument of what keeps nothing of it -/
theorem er_frzL [Ctx] (i : Nat) {xs : List α} {y : Str} (hM : ML S p xs) (h : ∀ T, ER X e (Γ.set i (some ⟨xs⟩)) T y) (hΓ : Γ[i]? = some (some ⟨(⟨p⟩ : Adr)⟩) := by rfl) : ER X e Γ S y := fun σ hσ S1 g Q k => by
  obtain ⟨n1, vs, h2, r⟩ := hM.up g
  have rp : Rp.rep (S1.frz [p]).G (.ref p) xs := ⟨p, vs, rfl, (HS.frz_in (List.mem_singleton.mpr rfl)).trans h2, r.mono same_frz⟩
  refine h (S1.frz [p]) σ ?_ _ (.refl _) Q fun S2 v g2 rv => ?_
  · rw [← slot_eq hσ hΓ]
    exact ((hσ.mono g.g).mono same_frz).set i (t := ⟨xs⟩) rp
  refine k (S2.thw [p]) v ⟨g2.h, fun a u q => ?_, fun q h1 h2 => ?_⟩ rv
  · have hn : a ∉ [p] := fun z => by
      rw [List.mem_singleton.mp z, n1] at q
      cases q
    rw [HS.thw_out hn]
    exact g2.g a u ((HS.frz_out hn).trans q)
  · by_cases hq : q ∈ [p]
    · exact HS.thw_in hq
    · rw [HS.thw_out hq]
      exact g2.n q h1 ((HS.frz_out hq).trans h2)
theorem s_augS (i : Nat) {nm : Str} {pos' : Pos} {n m : Str} (hN : X.N.Nodup) (hΓ : Γ[i]? = some (some ⟨n⟩)) (h : ER X e Γ S m) (hz : n.length + m.length ≤ sizeLine) (k : ∀ S1, Grow S S1 → SB X rest D (Γ.set i (some ⟨n ++ m⟩)) S1)
    (hi : X.N[i]? = some nm := by rfl) (hx : Loc X.env.scope nm := by first | exact Or.inl rfl | exact Or.inr rfl) (hf : X.fn nm = true ∨ X.env.scope.names.lookup nm = some .local := by first | exact .inl rfl | exact .inr rfl) :
    SB X (.AugAssign (.Name nm pos') .Add e pos :: rest) D Γ S := fun σ hσ => by
  obtain ⟨v, e1, r⟩ := hσ.at_ i _ hΓ
  refine w_cons (w_ps (ps_aug hN hi hx pe_w (fun pins s σ H x y v u Q I r1 r2 h => iop_add_str pins s σ H x y v u Q I r1 r2 h) hf) ⟨v, e1, h σ hσ S (.refl _) _ fun S2 u g2 ru => ⟨n, m, r, ru, hz, ?_⟩⟩)
  exact k S2 g2 _ ((hσ.mono g2.g).set i (t := ⟨n ++ m⟩) rfl)
end
/-! ### the text of a map -/
def mapText (ts : List (List Str)) : Str := Txt.join "\n" (ts.map rowS)
def nl : Str := "\n"
def mapSigns : List (List Str) → List Str
  | [] => []
  | r :: rest => r ++ rest.flatMap fun w => nl :: w
theorem joinL_flat (s : Nat) (p : List Nat) : ∀ ps : List (List Nat), TL.joinL [s] (p :: ps) = p ++ ps.flatMap fun w => s :: w
  | [] => by show p = _; simp
  | q :: r => by
    show p ++ ([s] ++ TL.joinL [s] (q :: r)) = _
    rw [joinL_flat s q r, List.flatMap_cons]
    rfl
theorem signs_map {ts : List (List Str)} (h : ∀ r ∈ ts, ∀ t ∈ r, OneS t) : signs (mapText ts) = mapSigns ts := by
  rw [signs_tl]
  unfold mapText
  rw [TL.join_eq, TL.tl_join]
  cases ts with
  | nil => rfl
  | cons r rest =>
    have e0 : TL.tl ("\n" : Str) = [10] := by decide +kernel
    rw [e0, List.map_cons, List.map_cons, joinL_flat, List.map_append]
    have e1 : ∀ r : List Str, (∀ t ∈ r, OneS t) → (TL.tl (rowS r)).map ofC = r := fun r hr => by rw [← signs_tl, signs_row hr]
    rw [e1 r (h r List.mem_cons_self)]
    unfold mapSigns
    congr 1
    have h2 : ∀ r ∈ rest, ∀ t ∈ r, OneS t := fun x hx => h x (List.mem_cons_of_mem _ hx)
    clear h
    induction rest with
    | nil => rfl
    | cons w rest ih =>
      rw [List.map_cons, List.map_cons, List.flatMap_cons, List.flatMap_cons, List.map_append, ih fun x hx => h2 x (List.mem_cons_of_mem _ hx), List.map_cons, e1 w (h2 w List.mem_cons_self)]
      have e3 : ofC 10 = nl := by decide +kernel
      rw [e3]
theorem nl_no_tile {t : Str} (h : t ∈ tiles8) : ¬ t = nl := fun z => by
  have := (tile_f h).nl
  rw [z] at this
  cases this
section
variable [c : Ctx]
theorem cal_scan : Cal "scan" 4 (SpT (fun a : Str × Unit => ∃ ts, MapOk ts ∧ a.1 = mapText ts) fun a (y : List Str × Option T3) => ∃ ts, MapOk ts ∧ a.1 = mapText ts ∧ y = (ts.map rowS, none)) := by
  refine mkCalT (d := d_scan) i_scan sc_scan g_scan (fun f cdv A outer s S a Q E hp hT hX hq => ?_) (hb := fun _ _ _ _ _ _ us hl => match us, hl with | [_], _ => rfl)
  obtain ⟨tx, ⟨⟩⟩ := a
  obtain ⟨ts, ok, rfl⟩ : ∃ ts, MapOk ts ∧ tx = mapText ts := hp
  replace hq : ∀ S1 v (y : List Str × Option T3), Upd S wP S1 → TB S1 → Rp.rep S1.G v y → y = (ts.map rowS, none) → Q v S1.H := fun S1 v y u T r e => hq S1 v y u T r ⟨ts, ok, rfl, e⟩
  have nd := sc_scan.nd
  have ones : ∀ r ∈ ts, ∀ t ∈ r, OneS t := fun r hr => tile_ones (ok.t r hr)
  obtain ⟨m, m1, m6, hm⟩ := ok.w
  have n6 := ok.n6
  have few := ok.few
  have z100 : 10000 ≤ sizeLine := by decide
  show SB _ _ _ [some ⟨mapText ts⟩, none, none, none, none, none, none, none] S
  refine s_setN (α := Str) 1 nd en_lst0 fun S1 p g1 hp1 ml1 => ?_
  refine s_set (x := ("" : Str)) 2 nd er_str fun S2 g2 => ?_
  refine s_set (x := (1 : Int)) 3 nd er_int fun S3 g3 => ?_
  refine s_set (x := (1 : Int)) 4 nd er_int fun S4 g4 => ?_
  refine s_set (x := (0 : Int)) 5 nd er_int fun S5 g5 => ?_
  have g15 := (((g1.trans g2).trans g3).trans g4).trans g5
  have ml5 := (((ml1.up g2).up g3).up g4).up g5
  refine s_for (α := Str) (xs := mapSigns ts) PassesOwn.never rfl (it_eq (it_str (er_var 0)) (signs_map ones)) (bg_name 6 nd) fun S6 g6 => ?_
  refine ⟨fun l Γ' S' => ∃ (done : List (List Str)) (cur rem : List Str) (rest : List (List Str)) (L C K : Int), Γ' = [some ⟨mapText ts⟩, some ⟨(⟨p⟩ : Adr)⟩, some ⟨rowS cur⟩, some ⟨L⟩, some ⟨C⟩, some ⟨K⟩, none, none] ∧ Grow S S' ∧ Same S6.G S'.G ∧ ML S' p (done.map rowS) ∧ ts = done ++ (cur ++ rem) :: rest ∧ l = rem ++ rest.flatMap (fun w => nl :: w) ∧ K ≤ (done.flatten.length + cur.length : Nat), ?_, fun l Γ' S' ⟨_, _, _, _, _, _, _, _, _, h, _⟩ => h, ?_, ?_⟩
  · obtain ⟨r0, rr, hrr⟩ : ∃ r0 rr, ts = r0 :: rr := by
      cases h : ts with
      | nil => exact absurd h ok.n0
      | cons a b => exact ⟨a, b, rfl⟩
    exact ⟨[], [], r0, rr, 1, 1, 0, rfl, g15.trans g6, Same.refl _, ml5.up g6, by rw [hrr]; rfl, by rw [hrr]; rfl, by simp⟩
  · rintro pre x l Γ' S' hx ⟨done, cur, rem, rest, L, C, K, rfl, gS, s6, ml, hts, hl, hK⟩ S7 g7
    have hcur : cur ++ rem ∈ ts := by rw [hts]; exact List.mem_append_right _ List.mem_cons_self
    have hcm : cur.length + rem.length = m := by rw [← List.length_append]; exact hm _ hcur
    have hcur8 : ∀ t ∈ cur, t ∈ tiles8 := fun t ht => ok.t _ hcur t (List.mem_append_left _ ht)
    have hdone : ∀ r ∈ done, r ∈ ts := fun r hr => by rw [hts]; exact List.mem_append_left _ hr
    have hdl : done.length < 6 := by
      have := congrArg List.length hts
      rw [List.length_append, List.length_cons] at this
      omega
    have hrl : (rowS cur).length = cur.length := row_len (tile_ones hcur8)
    have hfirst : ∀ r0, (done.map rowS)[0]? = some r0 → r0.length = m := fun r0 h0 => by
      rw [List.getElem?_map] at h0
      cases hd0 : done[0]? with
      | none => rw [hd0] at h0; cases h0
      | some d0 =>
        rw [hd0] at h0
        have h0 : some (rowS d0) = some r0 := h0
        injection h0 with h0
        have hmem := hdone d0 (List.mem_of_getElem? hd0)
        rw [← h0, row_len (ones d0 hmem), hm d0 hmem]
    have hfl : done.flatten.length + cur.length ≤ 36 := by
      have := few
      rw [hts, List.flatten_append, List.flatten_cons, List.length_append, List.length_append, List.length_append] at this
      omega
    cases rem with
    | cons t rem =>
      injection hl with hx1 hl1
      subst hx1
      have ht8 : x ∈ tiles8 := ok.t _ hcur x (List.mem_append_right _ List.mem_cons_self)
      have tf := tile_f ht8
      obtain ⟨ch, hch⟩ := tile_one ht8
      have hxl : x.length = 1 := by rw [hch]; rfl
      rw [List.length_cons] at hcm
      refine s_if (t := false) (tr_eq (tr_cmp (cv_eqS (er_var 6) er_str)) tf.nl) (fun t => nomatch t) (fun _ S8 g8 => s_end ?_)
      refine s_if (t := true) (tr_eq (tr_and (p2 := default) (tr_cmp (cv_neS (er_var 6) er_str)) fun _ => tr_cmp (cv_neS (er_var 6) er_str)) (by rw [tf.sp, tf.tb]; rfl)) (fun _ S9 g9 => ?_) (fun t => nomatch t)
      have ml9 := ((ml.up g7).up g8).up g9
      refine s_set (x := ("" : Str)) 7 nd (er_frzL 1 ml9 fun T => er_call cal_tile_problem (u := (done.map rowS, rowS cur, x, K, ())) (ar_cons (er_var 1) (ar_cons (er_var 2) (ar_cons (er_var 6) (ar_cons (er_var 5) ar_nil)))) ⟨by rw [List.length_map]; omega, by rw [hrl]; omega, ht8, by show K < 100; omega, fun r0 h0 => by have := hfirst r0 h0; exact ⟨by omega, by show (rowS cur).length < r0.length; omega⟩⟩) fun S10 g10 => ?_
      refine s_if (t := false) (tr_cmp (cv_neS (s := ("" : Str)) (er_var 7) er_str)) (fun t => nomatch t) (fun _ S11 g11 => s_end ?_)
      refine s_augS 2 (n := rowS cur) nd rfl (er_var 6) (by omega) fun S12 g12 => ?_
      rw [row_snoc]
      have gA := ((((g7.trans g8).trans g9).trans g10).trans g11).trans g12
      refine s_if (tr_bool (er_call cal_is_cell (u := (x, ())) (ar_cons (er_var 6) ar_nil) trivial)) (fun _ S13 g13 => ?_) (fun _ S13 g13 => s_end (s_end ?_))
      · refine s_aug 5 (n := K) (m := 1) nd rfl er_int fun S14 g14 => s_end (s_end ?_)
        refine s_aug 4 (n := C) (m := 1) nd rfl er_int fun S15 g15 => s_next (.keep (.keep (.keep (.keep (.keep (.keep (.drop (.drop .nil)))))))) ?_
        have gB := ((gA.trans g13).trans g14).trans g15
        exact ⟨done, cur ++ [x], rem, rest, L, C + 1, K + 1, rfl, gS.trans gB, s6.trans gB.g, ml.up gB, by rw [hts, List.append_assoc]; rfl, hl1, by rw [List.length_append, List.length_singleton]; omega⟩
      · refine s_aug 4 (n := C) (m := 1) nd rfl er_int fun S15 g15 => s_next (.keep (.keep (.keep (.keep (.keep (.keep (.drop (.drop .nil)))))))) ?_
        have gB := (gA.trans g13).trans g15
        exact ⟨done, cur ++ [x], rem, rest, L, C + 1, K, rfl, gS.trans gB, s6.trans gB.g, ml.up gB, by rw [hts, List.append_assoc]; rfl, hl1, by rw [List.length_append, List.length_singleton]; omega⟩
    | nil =>
      cases rest with
      | nil => cases hl
      | cons w rest =>
        rw [List.nil_append, List.flatMap_cons] at hl
        injection hl with hx1 hl1
        subst hx1
        rw [List.length_nil, Nat.add_zero] at hcm
        rw [List.append_nil] at hts
        refine s_if (t := true) (tr_cmp (cv_eqS (s := nl) (er_var 6) er_str)) (fun _ S8 g8 => ?_) (fun t => nomatch t)
        have ml8 := (ml.up g7).up g8
        refine s_set (x := ("" : Str)) 7 nd (er_frzL 1 ml8 fun T => er_call cal_row_problem (u := (done.map rowS, rowS cur, ())) (ar_cons (er_var 1) (ar_cons (er_var 2) ar_nil)) ⟨by rw [List.length_map]; omega, by rw [hrl]; omega, fun r0 h0 => by rw [hfirst r0 h0, hrl, hcm]⟩) fun S9 g9 => ?_
        refine s_if (t := false) (tr_cmp (cv_neS (s := ("" : Str)) (er_var 7) er_str)) (fun t => nomatch t) (fun _ S10 g10 => s_end ?_)
        refine s_if (t := true) (tr_eq (tr_cmp (cv_neS (er_var 2) er_str)) (by rw [str_empty_iff, hrl, decide_eq_false (by omega)]; rfl)) (fun _ S11 g11 => ?_) (fun t => nomatch t)
        refine s_app (((ml8.up g9).up g10).up g11) (er_var 1) (er_var 2) (by rw [List.length_map]; omega) fun S12 u12 m12 => s_end ?_
        refine s_set (x := ("" : Str)) 2 nd er_str fun S13 g13 => ?_
        refine s_aug 3 (n := L) (m := 1) nd rfl er_int fun S14 g14 => ?_
        refine s_set (x := (1 : Int)) 4 nd er_int fun S15 g15 => s_cont (.keep (.keep (.keep (.keep (.keep (.keep (.drop (.drop .nil)))))))) ?_
        have gA := (((g7.trans g8).trans g9).trans g10).trans g11
        have gC := (g13.trans g14).trans g15
        refine ⟨done ++ [cur], [], w, rest, L + 1, 1, K, rfl, ((gS.trans gA).upd hp1 u12).trans gC, ((s6.trans gA.g).trans u12.g).trans gC.g, ?_, by rw [hts, List.append_assoc]; rfl, hl1, ?_⟩
        · rw [List.map_append]
          exact m12.up gC
        · have ef : [cur].flatten = cur := by simp
          rw [List.flatten_append, List.length_append, ef, List.length_nil]
          omega
  · rintro Γ' S' ⟨done, cur, rem, rest, L, C, K, rfl, gS, s6, ml, hts, hl, hK⟩
    obtain ⟨e1, e2⟩ := List.append_eq_nil_iff.mp hl.symm
    subst e1
    have er : rest = [] := by
      cases rest with
      | nil => rfl
      | cons w r => rw [List.flatMap_cons] at e2; cases e2
    subst er
    rw [List.append_nil] at hts
    have hcur : cur ∈ ts := by rw [hts]; exact List.mem_append_right _ List.mem_cons_self
    have hcm : cur.length = m := hm _ hcur
    have hrl : (rowS cur).length = cur.length := row_len (ones cur hcur)
    have hdone : ∀ r ∈ done, r ∈ ts := fun r hr => by rw [hts]; exact List.mem_append_left _ hr
    have hdl : done.length < 6 := by
      have := congrArg List.length hts
      rw [List.length_append, List.length_cons] at this
      omega
    have hfirst : ∀ r0, (done.map rowS)[0]? = some r0 → r0.length = m := fun r0 h0 => by
      rw [List.getElem?_map] at h0
      cases hd0 : done[0]? with
      | none => rw [hd0] at h0; cases h0
      | some d0 =>
        rw [hd0] at h0
        have h0 : some (rowS d0) = some r0 := h0
        injection h0 with h0
        have hmem := hdone d0 (List.mem_of_getElem? hd0)
        rw [← h0, row_len (ones d0 hmem), hm d0 hmem]
    refine s_set (x := ("" : Str)) 7 nd (er_frzL 1 ml fun T => er_call cal_row_problem (u := (done.map rowS, rowS cur, ())) (ar_cons (er_var 1) (ar_cons (er_var 2) ar_nil)) ⟨by rw [List.length_map]; omega, by rw [hrl]; omega, fun r0 h0 => by rw [hfirst r0 h0, hrl, hcm]⟩) fun S9 g9 => ?_
    refine s_if (t := true) (tr_cmp (cv_eqS (s := ("" : Str)) (er_var 7) er_str)) (fun _ S10 g10 => ?_) (fun t => nomatch t)
    refine s_if (t := true) (tr_eq (tr_cmp (cv_neS (er_var 2) er_str)) (by rw [str_empty_iff, hrl, decide_eq_false (by omega)]; rfl)) (fun _ S11 g11 => ?_) (fun t => nomatch t)
    refine s_app (((ml.up g9).up g10).up g11) (er_var 1) (er_var 2) (by rw [List.length_map]; omega) fun S12 u12 m12 => s_end ?_
    have g12 : Grow S S12 := (((gS.trans g9).trans g10).trans g11).upd hp1 u12
    have em : done.map rowS ++ [rowS cur] = ts.map rowS := by rw [hts, List.map_append]; rfl
    rw [em] at m12
    refine SB.fixM 1 g12 hp1 m12 fun S13 e13 g13 s13 hn13 => ?_
    have T13 : TB S13 := hT.up g13
    refine s_setU 7 nd T13 (eu_call cal_whole_problem (u := (ts.map rowS, ())) (ar_cons (er_var 1) ar_nil) ⟨ts, ok, rfl⟩) fun S14 y u14 T14 hy => s_end ?_
    have hy : y = ("" : Str) := hy
    subst hy
    refine s_if (t := false) (tr_cmp (cv_neS (s := ("" : Str)) (er_var 7) er_str)) (fun t => nomatch t) (fun _ S15 g15 => s_end ?_)
    have u := (u14.after g13).trans (g15.toUpd _) T14.there
    refine s_ret (er_pair (er_var 1) (er_non (α := T3))) fun S16 v g16 r => hq S16 v _ (u.trans (g16.toUpd _) (T14.up g15).there) ((T14.up g15).up g16) r rfl
end
end Fl

set_option Elab.async false
set_option linter.all false
set_option maxRecDepth 100000
set_option maxHeartbeats 4000000
namespace Fl
open PySem PySem.Spec PyProof.Rows L2
section
variable {α : Type} [Rp α] {X : Cx} {a b d e : Expr} {Γ : Gm} {S : HS} {pos : Pos} {x y z w : α}
theorem er_lst4 (h1 : ER X a Γ S x) (h2 : ER X b Γ S y) (h3 : ER X d Γ S z) (h4 : ER X e Γ S w) (s1 : starEach [a, b, d, e] X.env = (false, eval a X.env) :: starEach [b, d, e] X.env := by rfl) (s2 : starEach [b, d, e] X.env = (false, eval b X.env) :: starEach [d, e] X.env := by rfl) (s3 : starEach [d, e] X.env = (false, eval d X.env) :: starEach [e] X.env := by rfl) (s4 : starEach [e] X.env = [(false, eval e X.env)] := by rfl) :
    ER X (.List [a, b, d, e] pos) Γ S [x, y, z, w] := fun σ hσ S1 g Q k => w_pe (pe_lst (pa_cons pe_w (pa_cons pe_w (pa_cons pe_w (pa_cons pe_w pa_nil s4) s3) s2) s1)) (h1 σ hσ S1 g _ fun S2 u g2 ru => h2 σ hσ S2 (g.trans g2) _ fun S3 v g3 rv => h3 σ hσ S3 ((g.trans g2).trans g3) _ fun S4 q g4 rq => h4 σ hσ S4 (((g.trans g2).trans g3).trans g4) _ fun S5 t g5 rt =>
    ⟨(by show 4 ≤ sizeLine; decide), fun p hp => k (S5.new p _ hp) _ ((((g2.trans g3).trans g4).trans g5).trans (.new S5 p _ hp)) ⟨p, _, rfl, HS.new_at, .cons (Rp.mono (((g3.trans g4).trans g5).trans (.new S5 p _ hp)).g ru) (.cons (Rp.mono ((g4.trans g5).trans (.new S5 p _ hp)).g rv) (.cons (Rp.mono (g5.trans (.new S5 p _ hp)).g rq) (.cons (Rp.mono (Grow.new S5 p _ hp).g rt) .nil)))⟩⟩)
end
theorem it_rangeN {X : Cx} {tg a : Expr} {Γ : Gm} {S : HS} {pos p : Pos} {n : Nat} (hm : X.mg "range" = none) (h : ER X a Γ S (n : Int)) (h1 : n ≤ 100000) (hg : Gl X "range" := by rfl) (hs : starEach [a] X.env = [(false, eval a X.env)] := by rfl) : IT X tg (.Call (.Name "range" p) [a] [] pos) Γ S (rangeI 0 n) :=
  it_eq (it_range (j := n) hm h (by omega) hg hs) (by rw [Int.toNat_natCast])
theorem row_at {r : List Str} (h : ∀ t ∈ r, OneS t) {j : Nat} {t : Str} (e : r[j]? = some t) : ∃ ch, (rowS r).cps.toList[j]? = some ch ∧ t = ofC ch := by
  have e1 : ((TL.tl (rowS r)).map ofC)[j]? = some t := by rw [← signs_tl, signs_row h]; exact e
  rw [List.getElem?_map] at e1
  obtain ⟨ch, h1, h2⟩ := Option.map_eq_some_iff.mp e1
  exact ⟨ch, h1, h2.symm⟩
section
variable [c : Ctx]
theorem cal_read_rows : Cal "read_rows" 5 (SpT (fun a : Str × Unit => ∃ ts, MapOk ts ∧ a.1 = mapText ts) fun a (y : List Str) => ∃ ts, MapOk ts ∧ a.1 = mapText ts ∧ y = ts.map rowS) := by
  refine mkCalT (d := d_read_rows) i_read_rows sc_read_rows g_read_rows (fun f cdv A outer s S a Q E hp hT hX hq => ?_) (hb := fun _ _ _ _ _ _ us hl => match us, hl with | [_], _ => rfl)
  obtain ⟨tx, ⟨⟩⟩ := a
  have nd := sc_read_rows.nd
  show SB _ _ _ [some ⟨tx⟩, none, none, none, none, none] S
  refine s_asgU hT (eu_call cal_scan (u := (tx, ())) (ar_cons (er_var 0) ar_nil) hp) (bg_pair rfl (bg_name 1 nd) (bg_name 2 nd)) fun S1 y u1 T1 hy => ?_
  obtain ⟨ts, ok, e, rfl⟩ := hy
  refine s_if (t := false) (tr_cmp (cv_notN (o := (none : Option T3)) (er_var 2))) (fun t => nomatch t) (fun _ S2 g2 => s_end ?_)
  exact s_ret (er_var 1) fun S3 v g3 r => hq S3 v _ (u1.trans ((g2.trans g3).toUpd _) T1.there) (T1.up (g2.trans g3)) r ⟨ts, ok, e, rfl⟩
structure CellsOk (ps : List (Int × Int)) (tl : List Str) : Prop where
  len : ps.length = tl.length
  few : tl.length ≤ 36
  t : ∀ t ∈ tl, t ∈ tiles8
theorem cal_cells_of : Cal "cells_of" 2 (Spc (fun a : List Str × Unit => ∃ ts, MapOk ts ∧ a.1 = ts.map rowS) fun _ (y : List (Int × Int) × List Str) => CellsOk y.1 y.2) := by
  refine mkCal (d := d_cells_of) i_cells_of sc_cells_of g_cells_of (fun f cdv A outer s S a Q E hp hX hq => ?_) (hb := fun _ _ _ _ _ _ us hl => match us, hl with | [_], _ => rfl)
  obtain ⟨rows, ⟨⟩⟩ := a
  obtain ⟨ts, ok, rfl⟩ : ∃ ts, MapOk ts ∧ rows = ts.map rowS := hp
  replace hq : ∀ S1 v (y : List (Int × Int) × List Str), Grow S S1 → Rp.rep S1.G v y → CellsOk y.1 y.2 → Q v S1.H := hq
  have nd := sc_cells_of.nd
  have ones : ∀ r ∈ ts, ∀ t ∈ r, OneS t := fun r hr => tile_ones (ok.t r hr)
  obtain ⟨m, m1, m6, hm⟩ := ok.w
  have n6 := ok.n6
  have z100 : 10000 ≤ sizeLine := by decide
  have hnm : ts.length * m ≤ 36 := Nat.le_trans (Nat.mul_le_mul n6 m6) (by decide)
  show SB _ _ _ [some ⟨ts.map rowS⟩, none, none, none, none] S
  refine s_setN (α := Int × Int) 1 nd en_lst0 fun S1 p g1 hp1 mp1 => ?_
  refine s_setN (α := Str) 2 nd en_lst0 fun S2 q g2 hq2 mq2 => ?_
  have hpq : q ≠ p := mp1.ne hq2
  have hq1 : S.H q = none := g1.h.free hq2
  refine s_for (α := Int) (xs := rangeI 0 ts.length) PassesOwn.never rfl (it_rangeN b_range (er_eq (er_len b_len (xs := ts.map rowS) (er_var 0)) (by rw [List.length_map])) (by omega)) (bg_name 3 nd) fun S3 g3 => ?_
  refine ⟨fun r Γ' S' => ∃ (ps : List (Int × Int)) (tl : List Str), Γ' = [some ⟨ts.map rowS⟩, some ⟨(⟨p⟩ : Adr)⟩, some ⟨(⟨q⟩ : Adr)⟩, none, none] ∧ Grow S S' ∧ Same S3.G S'.G ∧ ML S' p ps ∧ ML S' q tl ∧ ps.length = tl.length ∧ (∀ t ∈ tl, t ∈ tiles8) ∧ tl.length + r.length * m ≤ ts.length * m,
    ⟨[], [], rfl, (g1.trans g2).trans g3, Same.refl _, (mp1.up g2).up g3, mq2.up g3, rfl, (fun t ht => nomatch ht), by rw [rangeI_len]; simp⟩, fun r Γ' S' ⟨_, _, _, _, h, _⟩ => h, ?_, ?_⟩
  · rintro pre x r Γ' S' hx ⟨ps, tl, rfl, gS, s3, mp, mq, hl, ht, hb⟩ S4 g4
    obtain ⟨ex, hrl⟩ := rangeI_at hx
    obtain ⟨k, hk⟩ : ∃ k : Nat, k = ts.length - (r.length + 1) := ⟨_, rfl⟩
    rw [← hk] at ex
    subst ex
    have hkl : k < ts.length := by omega
    obtain ⟨row, hrow⟩ : ∃ row, ts[k]? = some row := ⟨_, List.getElem?_eq_getElem hkl⟩
    have hmem := List.mem_of_getElem? hrow
    have hro := ones row hmem
    have hrm := hm row hmem
    have hat : (ts.map rowS)[((k : Nat) : Int).toNat]? = some (rowS row) := by rw [Int.toNat_natCast, List.getElem?_map, hrow]; rfl
    have hrs : (rowS row).length = m := by rw [row_len hro, hrm]
    rw [List.length_cons, Nat.succ_mul] at hb
    refine s_for (α := Int) (xs := rangeI 0 m) PassesOwn.never rfl (it_rangeN b_range (er_eq (er_lens (s := rowS row) b_len (er_ix (xs := ts.map rowS) (er_var 0) (er_var 3) (by omega) hat) (by omega)) (by rw [hrs])) (by omega)) (bg_name 4 nd) fun S5 g5 => ?_
    refine ⟨fun r2 Γ' S' => ∃ (ps : List (Int × Int)) (tl : List Str), Γ' = [some ⟨ts.map rowS⟩, some ⟨(⟨p⟩ : Adr)⟩, some ⟨(⟨q⟩ : Adr)⟩, some ⟨((k : Nat) : Int)⟩, none] ∧ Grow S S' ∧ Same S5.G S'.G ∧ ML S' p ps ∧ ML S' q tl ∧ ps.length = tl.length ∧ (∀ t ∈ tl, t ∈ tiles8) ∧ tl.length + r2.length + r.length * m ≤ ts.length * m,
      ⟨ps, tl, rfl, (gS.trans g4).trans g5, Same.refl _, (mp.up g4).up g5, (mq.up g4).up g5, hl, ht, by rw [rangeI_len]; omega⟩, fun r2 Γ' S' ⟨_, _, _, _, h, _⟩ => h, ?_, ?_⟩
    · rintro pre2 x2 r2 Γ' S' hx2 ⟨ps, tl, rfl, gS, s5, mp, mq, hl, ht, hb⟩ S6 g6
      obtain ⟨ex2, hrl2⟩ := rangeI_at hx2
      obtain ⟨j, hj⟩ : ∃ j : Nat, j = m - (r2.length + 1) := ⟨_, rfl⟩
      rw [← hj] at ex2
      subst ex2
      have hjl : j < row.length := by omega
      obtain ⟨t, htj⟩ : ∃ t, row[j]? = some t := ⟨_, List.getElem?_eq_getElem hjl⟩
      have ht8 := ok.t row hmem t (List.mem_of_getElem? htj)
      obtain ⟨ch, hch, rfl⟩ := row_at hro htj
      rw [List.length_cons] at hb
      have et : ∀ S0 : HS, ∀ p1 p2 p3 p4 p5 : Pos, True := fun _ _ _ _ _ _ => trivial
      refine s_if (tr_bool (er_call cal_is_cell (u := (ofC ch, ())) (ar_cons (er_ixS (s := rowS row) (er_ix (xs := ts.map rowS) (er_var 0) (er_var 3) (by omega) hat) (er_var 4) (by omega) (by omega) (by rw [Int.toNat_natCast]; exact hch)) ar_nil) trivial)) (fun _ S7 g7 => ?_) (fun _ S7 g7 => s_end (s_next (.keep (.keep (.keep (.keep (.drop .nil))))) ?_))
      · refine s_app (x := (((k : Nat) : Int), ((j : Nat) : Int))) ((mp.up g6).up g7) (er_var 1) (er_pair (er_var 3) (er_var 4)) (by omega) fun S8 u8 m8 => ?_
        refine s_app (x := ofC ch) (((mq.up g6).up g7).upd u8 hpq) (er_var 2) (er_ixS (s := rowS row) (er_ix (xs := ts.map rowS) (er_var 0) (er_var 3) (by omega) hat) (er_var 4) (by omega) (by omega) (by rw [Int.toNat_natCast]; exact hch)) (by omega) fun S9 u9 m9 => s_end (s_next (.keep (.keep (.keep (.keep (.drop .nil))))) ?_)
        refine ⟨_, _, rfl, (((gS.trans g6).trans g7).upd hp1 u8).upd hq1 u9, ((s5.trans (g6.trans g7).g).trans u8.g).trans u9.g, m8.upd u9 (Ne.symm hpq), m9, by rw [List.length_append, List.length_append, hl]; rfl, fun z hz => ?_, by rw [List.length_append, List.length_singleton]; omega⟩
        rcases List.mem_append.mp hz with hz | hz
        · exact ht z hz
        · rw [List.mem_singleton.mp hz]
          exact ht8
      · exact ⟨ps, tl, rfl, (gS.trans g6).trans g7, s5.trans (g6.trans g7).g, (mp.up g6).up g7, (mq.up g6).up g7, hl, ht, by omega⟩
    · rintro Γ' S' ⟨ps, tl, rfl, gS2, s5, mp, mq, hl, ht, hb⟩
      refine s_next (.keep (.keep (.keep (.drop (.drop .nil))))) ?_
      exact ⟨ps, tl, rfl, gS2, (s3.trans (g4.trans g5).g).trans s5, mp, mq, hl, ht, by rw [List.length_nil] at hb; omega⟩
  · rintro Γ' S' ⟨ps, tl, rfl, gS, s3, mp, mq, hl, ht, hb⟩
    refine SB.fixM 1 gS hp1 mp fun S4 e4 g4 s4 hn4 => ?_
    refine SB.fixM 2 g4 hq1 (mq.fix e4 s4 hn4 hpq) fun S5 e5 g5 s5 hn5 => ?_
    exact s_ret (er_pair (er_var 1) (er_var 2)) fun S6 v g6 r => hq S6 v (ps, tl) (g5.trans g6) r ⟨hl, by rw [List.length_nil] at hb; show tl.length ≤ 36; omega, ht⟩
/-! ### neighbors -/
def besideL (x : Int × Int) : List (Int × Int) := [(x.1 - 1, x.2), (x.1, x.2 - 1), (x.1, x.2 + 1), (x.1 + 1, x.2)]
def nbrs (ps : List (Int × Int)) (k : Int) : List Int := (rangeI 0 ps.length).filter fun j => memD (ps.getD j.toNat (0, 0)) (besideL (ps.getD k.toNat (0, 0)))
theorem getP {α : Type} {xs : List α} {i : Int} {d : α} (h0 : 0 ≤ i) (h1 : i < (xs.length : Int)) : xs[i.toNat]? = some (xs.getD i.toNat d) := getD_at h0 h1
theorem cal_neighbors : Cal "neighbors" 1 (Spf (fun a : List (Int × Int) × Int × Unit => a.1.length ≤ 36 ∧ 0 ≤ a.2.1 ∧ a.2.1 < a.1.length) fun a => nbrs a.1 a.2.1) := by
  refine mkCal (d := d_neighbors) i_neighbors sc_neighbors g_neighbors (fun f cdv A outer s S a Q E hp hX hq => ?_) (hb := fun _ _ _ _ _ _ us hl => match us, hl with | [_, _], _ => rfl)
  obtain ⟨ps, k, ⟨⟩⟩ := a
  obtain ⟨hl, k0, k1⟩ : ps.length ≤ 36 ∧ 0 ≤ k ∧ k < ps.length := hp
  replace hq : ∀ S1 v y, Grow S S1 → Rp.rep S1.G v y → y = nbrs ps k → Q v S1.H := hq
  have nd := sc_neighbors.nd
  show SB _ _ _ [some ⟨ps⟩, some ⟨k⟩, none, none, none, none] S
  refine s_asg (x := ps.getD k.toNat (0, 0)) (er_ix (er_var 0) (er_var 1) k0 (getP k0 k1)) (bg_pair rfl (bg_name 2 nd) (bg_name 3 nd)) fun S1 g1 => ?_
  refine s_set (x := besideL (ps.getD k.toNat (0, 0))) 4 nd (er_lst4 (er_pair (er_sub (er_var 2) er_int) (er_var 3)) (er_pair (er_var 2) (er_sub (er_var 3) er_int)) (er_pair (er_var 2) (er_add (er_var 3) er_int)) (er_pair (er_add (er_var 2) er_int) (er_var 3))) fun S2 g2 => ?_
  refine s_ret (en_lcI (xs := rangeI 0 ps.length) (h := fun j : Int => j) 5 (fun j => memD (ps.getD j.toNat (0, 0)) (besideL (ps.getD k.toNat (0, 0)))) rfl nd (it_rangeN b_range (er_len b_len (er_var 0)) (by omega)) (by rw [rangeI_len]; omega) (blkOk_by (N := N_neighbors) (sc := defScope s_neighbors) (by decide +kernel)) (fun x hx S2 g2 X' hb => ?_) (fun x hx _ S2 g2 X' hb => ?_)).er fun S3 v g3 r => hq S3 v _ ((g1.trans g2).trans g3) r (by unfold nbrs; rw [List.map_id'])
  · obtain ⟨_, _, _, _, _, rfl⟩ := hb
    have hr := mem_rangeI.mp hx
    exact tr_cmp (cv_inD2 (u65 inferInstance) (by decide) (er_ix (er_var 0) (er_var 5) hr.1 (getP hr.1 (by omega))) (er_var 4))
  · obtain ⟨_, _, _, _, _, rfl⟩ := hb
    exact er_var 5
end
end Fl

set_option Elab.async false
set_option linter.all false
set_option maxRecDepth 100000
set_option maxHeartbeats 4000000
namespace Fl
open PySem PySem.Spec PyProof.Rows L2
section
variable {α β γ : Type} [Rp α] [Rp β] [Rp γ] {X : Cx} {elt iter : Expr} {Γ : Gm} {S : HS} {pos tpos : Pos}
abbrev Gy (Γ : Gm) (i j : Nat) (x : α) (y : β) : Gm := ((wipeG Γ [i, j]).set i (some ⟨x⟩)).set j (some ⟨y⟩)
theorem lc_readP [Ctx] {xs : List (α × β)} {h : α × β → γ} {wi : TI} {g : TG} {te : TE} {vs : List Nat} {n n2 : Nat} {σ : L2.St} (hσ : Slots S.G σ Γ) {T : HS} (gT : Grow S T) (hz : xs.length ≤ 100000)
    (hwi : ∀ R : It → Hp → Prop, (∀ S2 J, Grow T S2 → Yields J S2.G xs → R J S2.H) → wi σ T.H R)
    (hg : ∀ (S2 : HS) (v : V) (x : α × β), Grow S S2 → Rp.rep S2.G v x → ∀ Q : L2.St → Hp → Prop, (∀ σ2, Slots S2.G σ2 (Gy Γ n n2 x.1 x.2) → wipe σ2 vs = wipe σ vs → Q σ2 S2.H) → g v (wipe σ vs) S2.H Q)
    (he : ∀ x, x ∈ xs → ∀ S2, Grow S S2 → ∀ σ2, Slots S2.G σ2 (Gy Γ n n2 x.1 x.2) → ∀ Q : VK, (∀ S3 w, Grow S2 S3 → Rp.rep S3.G w (h x) → Q w S3.H) → te σ2 S2.H Q)
    {Q : VK} (k : ∀ S2 D, Grow T S2 → T.H D = none → ML S2 D (xs.map h) → Q (.ref D) S2.H) : tLc wi g tYes te vs σ T.H Q := by
  refine hwi _ fun T1 J g1 Y D hD => ⟨fun i m H => m = xs.length - i ∧ i ≤ xs.length ∧ ∃ S' : HS, S'.H = H ∧ Grow T1 S' ∧ ML S' D ((xs.take i).map h), ⟨xs.length, by rw [Nat.sub_zero], Nat.zero_le _, T1.add D (.lst []) (T1.le.free hD), rfl, .add T1 D _ hD, T1.le.free hD, [], upd_same, .nil⟩, ?_⟩
  rintro i m H ⟨rfl, hi, S', rfl, g', hM⟩
  rcases Nat.lt_or_ge i xs.length with hlt | hge
  · refine .inr ⟨Y.go i S' g'.g hlt, fun H' => ∃ S2 : HS, S2.H = H' ∧ Grow T1 S2 ∧ ML S2 D ((xs.take (i + 1)).map h), fun H' q => ⟨xs.length - (i + 1), by omega, rfl, hlt, q⟩, fun v H' y => ?_⟩
    obtain ⟨S2, rfl, g2, x, hx, r⟩ := Y.yld i S' v H' g'.g hlt y
    have gS : Grow S S2 := ((gT.trans g1).trans g').trans g2
    refine hg S2 v x gS r _ fun σ2 hs2 hw => ⟨hw, ?_⟩
    refine tYes_in (he x (List.mem_of_getElem? hx) S2 gS σ2 hs2 _ fun S4 w g4 r4 => ?_)
    obtain ⟨n4, us, h4, r5⟩ := hM.up (g2.trans g4)
    have hl : us.length < sizeLine := by
      rw [r5.len, List.length_map]
      have := List.length_take_le i xs
      exact Nat.lt_of_lt_of_le (show _ < 100001 by omega) (by decide)
    refine ⟨us, h4, hl, S4.add D (.lst (us ++ [w])) n4, rfl, ((g'.trans g2).trans g4).mut hD n4, n4, us ++ [w], upd_same, ?_⟩
    have et : xs.take (i + 1) = xs.take i ++ [x] := by rw [List.take_add_one, hx]; rfl
    rw [et, List.map_append]
    exact r5.app (.cons r4 .nil)
  · have e : i = xs.length := Nat.le_antisymm hi hge
    subst e
    rw [List.take_length] at hM
    exact .inl ⟨Y.stop _ S' g'.g (Nat.le_refl _), k S' D (g1.trans g') (g1.h.free hD) hM⟩
theorem set_clear {σ : L2.St} {i j : Nat} {v w : Option V} : wipe (((wipe σ [i, j]).set i v).set j w) [i, j] = wipe σ [i, j] := by
  show ((((((σ.set j none).set i none).set i v).set j w).set j none).set i none) = (σ.set j none).set i none
  apply List.ext_getElem?
  intro k
  simp only [List.getElem?_set, List.length_set]
  by_cases h1 : i = k <;> by_cases h2 : j = k <;> simp [h1, h2]
/-- [elt for nm, nm2 in iter] -/
theorem en_lcP [Ctx] {scope : Scope} {nm nm2 : Str} {np np2 : Pos} {kk : Nat} {xs : List (α × β)} {h : α × β → γ} (n n2 : Nat) (hc : X.calm = true) (hN : X.N.Nodup) (hi : IT X (.Tuple [.Name nm np, .Name nm2 np2] kk tpos) iter Γ S xs) (hz : xs.length ≤ 100000) (ok : BlkOk X.N X.env.scope scope [(nm, n), (nm2, n2)])
    (he : ∀ x, x ∈ xs → ∀ S2, Grow S S2 → ∀ X', Blk X scope X' → ER X' elt (Gy Γ n n2 x.1 x.2) S2 (h x))
    (hx : (relabel scope X.env).names.lookup nm = some .local := by rfl) (hx2 : (relabel scope X.env).names.lookup nm2 = some .local := by rfl) (hn : X.N[n]? = some nm := by rfl) (hn2 : X.N[n2]? = some nm2 := by rfl) (hs : ∀ x, foldedSetIterable iter X.env x = pure x := by intro _; rfl)
    (ha : ∀ X', Blk X scope X' → (assignEach [.Name nm np, .Name nm2 np2] X'.env).map (·.2) = assign (.Name nm np) X'.env :: (assignEach [.Name nm2 np2] X'.env).map (·.2) ∧ (assignEach [.Name nm2 np2] X'.env).map (·.2) = [assign (.Name nm2 np2) X'.env] ∧ (assignEach [.Name nm np, .Name nm2 np2] X'.env).length = 2 ∧ (assignEach [.Name nm np, .Name nm2 np2] X'.env).findIdx? (·.1) = none := by intro X' ⟨_, _, _, _, _, e⟩; subst e; exact ⟨rfl, rfl, rfl, rfl⟩) :
    EN X (.ListComp elt [⟨.Tuple [.Name nm np, .Name nm2 np2] kk tpos, iter, [], 0⟩] scope pos) Γ S (xs.map h) := fun σ hσ S1 g Q k => by
  obtain ⟨wi, hwi, ki⟩ := hi
  refine w_pe (pe_lc (own := [(nm, n), (nm2, n2)]) (g := gTup X.K 2 (gCons (gName n) (gCons (gName n2) gNil))) (tt := tYes) (te := bE X scope elt) hc hN hwi ok (fun s H C cl fp => by
    have hb : Blk X scope (X.blk s H scope (compEnvC scope cl C X.env) fp) := ⟨s, H, C, cl, fp, rfl⟩
    obtain ⟨a1, a2, a3, a4⟩ := ha _ hb
    exact pg_tup (X := X.blk s H scope (compEnvC scope cl C X.env) fp) hc (pgs_cons (pg_name (X := X.blk s H scope (compEnvC scope cl C X.env) fp) hN hn (.inl hx) (.inr hx)) (pgs_cons (pg_name (X := X.blk s H scope (compEnvC scope cl C X.env) fp) hN hn2 (.inl hx2) (.inr hx2)) pgs_nil a2) a1) a3 a4) (fun _ _ _ _ _ => pts_nil) (fun s H C cl fp => ⟨fun pins s1 σ1 H1 Q1 I1 h1 => h1 s H C cl fp pins s1 I1⟩) hs) ?_
  refine lc_readP (h := h) (n := n) (n2 := n2) hσ g hz (fun R q => ki σ hσ S1 g R q) (fun S2 v x g2 ⟨p, v1, v2, e1, e2, r1, r2⟩ Q q => ⟨p, _, e1, SqT.of (S2.le _ _ e2), rfl, v1, [v2], rfl, v2, [], rfl, rfl, q _ ?_ set_clear⟩) (fun x hx S2 g2 σ2 hs2 Q q => bE_of (he x hx S2 g2) hs2 q) k
  exact Slots.set (t := ⟨x.2⟩) (Slots.set (t := ⟨x.1⟩) ((hσ.mono g2.g).wipe [n, n2]) n r1) n2 r2
end
section
variable [c : Ctx]
abbrev FloA := List (List Int) × List Int × List (List Int) × List (Int × Int) × Unit
def floOf (d : FloA) : Flo := ⟨d.1, d.2.1, d.2.2.1, d.2.2.2.1⟩
def flFloA (d : FloA) : List (Str × TV) := flFlo (floOf d)
def preFloA (d : FloA) : Prop := d.1.length ≤ 1000 ∧ d.2.2.1.length ≤ 1000 ∧ d.2.2.2.1.length ≤ 1000
theorem ical_Floor : ICal "Floor" 1 (SpI "Floor" flFloA preFloA) [] := by
  obtain ⟨fd, F, G⟩ : ∃ fd, FnOk PP c.w c.K c.mg c.base CX0 1 (He.ma c.K (He.ga c.K "Floor") "__init__") fd ["self", "near", "doors", "stations", "places"] (SpI "Floor" flFloA preFloA) ∧ FunD c.K d_Floor_init.name d_Floor_init.qual d_Floor_init.params d_Floor_init.body d_Floor_init.scope (d_Floor_init.dvs c.K) (d_Floor_init.kws c.K) (He.ma c.K (He.ga c.K "Floor") "__init__") fd := by
    refine fn_init (d := d_Floor_init) (i := i_Floor_init) rfl sc_Floor_init rfl (fun f cdv A outer s S p a Q E hX hp hm hq => ?_)
    obtain ⟨ne, dr, st, ps, ⟨⟩⟩ := a
    obtain ⟨h1, h2, h3⟩ : ne.length ≤ 1000 ∧ st.length ≤ 1000 ∧ ps.length ≤ 1000 := hp
    have nd := sc_Floor_init.nd
    show SB _ _ _ [some ⟨(⟨p⟩ : Adr)⟩, some ⟨ne⟩, some ⟨dr⟩, some ⟨st⟩, some ⟨ps⟩, none, none] S
    refine s_fld (t := ⟨ne⟩) hm ?_ (er_var 0) c_Floor n_Floor_near rfl fun S1 u1 m1 => ?_
    · refine er_eq (en_lc (h := fun x : List Int => x) 5 rfl nd (it_list (er_var 1)) (by omega) (blkOk_by (N := N_Floor_init) (sc := defScope s_Floor_init) (by decide +kernel)) fun x _ S2 g2 X' hb => ?_).er (List.map_id' ne)
      obtain ⟨_, _, _, _, _, rfl⟩ := hb
      exact er_list b_list (er_var 5)
    have e1 : ∀ S : HS, MI S p "Floor" (putT "near" ⟨ne⟩ []) → ER (bx d_Floor_init N_Floor_init f cdv A outer s S.H E) (.Name "self" default) [] S (⟨p⟩ : Adr) → True := fun _ _ _ => trivial
    refine s_fld (t := ⟨(ne.length : Int)⟩) m1 (er_len b_len (er_fldM (t := ⟨ne⟩) m1 rfl c_Floor n_Floor_near (er_var 0))) (er_var 0) c_Floor n_Floor_size rfl fun S2 u2 m2 => ?_
    refine s_fld (t := ⟨(ne.length : Int)⟩) m2 (er_len b_len (er_fldM (t := ⟨ne⟩) m2 rfl c_Floor n_Floor_near (er_var 0))) (er_var 0) c_Floor n_Floor_depot rfl fun S3 u3 m3 => ?_
    refine s_fld (t := ⟨dr⟩) m3 (er_list b_list (er_var 2)) (er_var 0) c_Floor n_Floor_doors rfl fun S4 u4 m4 => ?_
    refine s_fld (t := ⟨st⟩) m4 ?_ (er_var 0) c_Floor n_Floor_stations rfl fun S5 u5 m5 => ?_
    · refine er_eq (en_lc (h := fun x : List Int => x) 5 rfl nd (it_list (er_var 3)) (by omega) (blkOk_by (N := N_Floor_init) (sc := defScope s_Floor_init) (by decide +kernel)) fun x _ S2 g2 X' hb => ?_).er (List.map_id' st)
      obtain ⟨_, _, _, _, _, rfl⟩ := hb
      exact er_list b_list (er_var 5)
    refine s_fld (t := ⟨ps⟩) m5 ?_ (er_var 0) c_Floor n_Floor_places rfl fun S6 u6 m6 => ?_
    · refine er_eq (en_lcP (h := fun x : Int × Int => x) 5 6 rfl nd (it_list (er_var 4)) (by omega) (blkOk_by (N := N_Floor_init) (sc := defScope s_Floor_init) (by decide +kernel)) fun x _ S2 g2 X' hb => ?_).er (List.map_id' ps)
      obtain ⟨_, _, _, _, _, rfl⟩ := hb
      exact er_pair (er_var 5) (er_var 6)
    exact s_nil fun σ hσ => hq S6 (((((u1.trans u2 m1.there).trans u3 m2.there).trans u4 m3.there).trans u5 m4.there).trans u6 m5.there) m6
  exact ⟨_, fd, _, [], F, mk_Floor, g_Floor, FunD.bindsN G (fun _ _ _ _ _ _ us hl => match us, hl with | [_, _, _, _, _], _ => rfl), .nil⟩
variable {X : Cx} {a b d e : Expr} {Γ : Gm} {S : HS} {pos : Pos}
theorem ni_Floor {k : Nat} [hX : InC k X] {ne st : List (List Int)} {dr : List Int} {ps : List (Int × Int)} {nm : Pos} (ha : ER X a Γ S ne) (hb : ER X b Γ S dr) (hd : ER X d Γ S st) (he : ER X e Γ S ps) (h1 : ne.length ≤ 1000) (h2 : st.length ≤ 1000) (h3 : ps.length ≤ 1000) (hj : 2 ≤ k := by decide) (hg : Gl X "Floor" := by rfl)
    (s1 : starEach [a, b, d, e] X.env = (false, eval a X.env) :: starEach [b, d, e] X.env := by rfl) (s2 : starEach [b, d, e] X.env = (false, eval b X.env) :: starEach [d, e] X.env := by rfl) (s3 : starEach [d, e] X.env = (false, eval d X.env) :: starEach [e] X.env := by rfl) (s4 : starEach [e] X.env = (false, eval e X.env) :: starEach [] X.env := by rfl)
    (hpl : (backTo pos (starEach [b, d, e] X.env)).any (·.1) = false := by rfl) : NI X (.Call (.Name "Floor" nm) [a, b, d, e] [] pos) Γ S "Floor" (flFlo ⟨ne, dr, st, ps⟩) :=
  ni_make (fl := flFloA) (d := (ne, dr, st, ps, ())) (d2 := (ne, dr, st, ps, ())) ical_Floor (ar_cons ha (ar_cons hb (ar_cons hd (ar_cons he ar_nil s4) s3) s2) s1) (fun H vs r => by rw [List.append_nil]; exact r) ⟨h1, h2, h3⟩ hj hg (by decide) s1 hpl
end
end Fl

set_option Elab.async false
set_option linter.all false
set_option maxRecDepth 100000
set_option maxHeartbeats 4000000
namespace Fl
open PySem PySem.Spec PyProof.Rows L2
section
variable [c : Ctx]
theorem eu_callE {α β : Type} [Rp α] [Rp β] {X : Cx} {e : Expr} {Γ : Gm} {S : HS} {pos : Pos} {pre : α × Unit → Prop} {post : α × Unit → β → Prop} {P : α → Prop} {k j : Nat} {nm : Str} {p : Pos} [hX : InC k X] (C : Cal nm j (Spc pre post)) (he : EU TB X e Γ S (wP (c := c)) P) (hp : ∀ y, P y → pre (y, ())) (hj : j ≤ k := by decide) (hg : Gl X nm := by rfl) (hdb : (nm == ("__debug__" : Str)) = false := by decide)
    (h1 : starEach [e] X.env = (false, eval e X.env) :: starEach [] X.env := by rfl) (hpl : (backTo pos (starEach [] X.env)).any (·.1) = false := by rfl) : EU TB X (.Call (.Name nm p) [e] [] pos) Γ S (wP (c := c)) (fun z => ∃ y, P y ∧ post (y, ()) z) := fun σ hσ S1 g hB Q kk => by
  obtain ⟨f, fd, ps, F, hm, hk, hb⟩ := C.ex
  refine w_pe (pe_call (fn_in hX F) (hX.room.mono hj) hg (by rw [hX.mg]; exact hm) (by rw [hX.K]; exact hk) (by rw [hX.K]; exact hb) .nil pass0 (pa_cons pe_w pa_nil h1) hdb h1 hpl) (he σ hσ S1 g hB _ fun S2 v y u2 hB2 r hy => ?_)
  exact ⟨S2, (y, ()), rfl, ⟨v, _, rfl, r, rfl⟩, hp y hy, fun S3 w z g3 r3 p3 => kk S3 w z (u2.trans (g3.toUpd _) hB2.there) (hB2.up g3) r3 ⟨y, hy, p3⟩⟩
def tileAt (tl : List Str) (j : Int) : Str := tl.getD j.toNat ""
theorem tileAt_get {tl : List Str} {j : Int} (h0 : 0 ≤ j) (h1 : j < (tl.length : Int)) : tl[j.toNat]? = some (tileAt tl j) := getD_at h0 h1
theorem cal_read_floor : Cal "read_floor" 6 (SpT (fun a : Str × Unit => ∃ ts, MapOk ts ∧ a.1 = mapText ts) fun _ (y : Flo) => y.Ok ∧ y.stations.length ≤ 3) := by
  refine mkCalT (d := d_read_floor) i_read_floor sc_read_floor g_read_floor (fun f cdv A outer s S a Q E hp hT hX hq => ?_) (hb := fun _ _ _ _ _ _ us hl => match us, hl with | [_], _ => rfl)
  obtain ⟨tx, ⟨⟩⟩ := a
  replace hq : ∀ S1 v (y : Flo), Upd S wP S1 → TB S1 → Rp.rep S1.G v y → y.Ok ∧ y.stations.length ≤ 3 → Q v S1.H := hq
  have nd := sc_read_floor.nd
  obtain ⟨t4, k4⟩ := k_STATION_LIMIT (c := c)
  show SB _ _ _ [some ⟨tx⟩, none, none, none, none, none, none, none, none] S
  refine s_asgU hT (eu_callE cal_cells_of (eu_call cal_read_rows (u := (tx, ())) (ar_cons (er_var 0) ar_nil) hp) (fun y ⟨ts, ok, _, e⟩ => ⟨ts, ok, e⟩)) (bg_pair rfl (bg_name 1 nd) (bg_name 2 nd)) fun S1 y u1 T1 hy => ?_
  obtain ⟨ps, tl⟩ := y
  obtain ⟨_, _, hl, few, t8⟩ := hy
  have hl : ps.length = tl.length := hl
  have few : tl.length ≤ 36 := few
  have t8 : ∀ t ∈ tl, t ∈ tiles8 := t8
  refine s_setLc (xs := rangeI 0 ps.length) (h := nbrs ps) 4 3 rfl nd (it_rangeN b_range (er_len b_len (er_var 1)) (by omega)) (by rw [rangeI_len]; omega) (blkOk_by (N := N_read_floor) (sc := defScope s_read_floor) (by decide +kernel)) (fun x hx S2 g2 X' hb => ?_) (fun S2 q2 g2 hq2 m2 => ?_) (sw_true rfl rfl rfl (by decide +kernel))
  · obtain ⟨_, _, _, _, _, rfl⟩ := hb
    have hr := mem_rangeI.mp hx
    exact er_call cal_neighbors (u := (ps, x, ())) (ar_cons (er_var 1) (ar_cons (er_var 3) ar_nil)) ⟨by show ps.length ≤ 36; omega, hr.1, by show x < (ps.length : Int); omega⟩
  refine SB.fixM 4 g2 hq2 m2 fun S3 e3 g3 s3 hn3 => ?_
  refine s_setLcI (xs := rangeI 0 tl.length) (h := fun j : Int => j) 5 3 (fun j => doorT (tileAt tl j)) rfl nd (it_rangeN b_range (er_len b_len (er_var 2)) (by omega)) (by rw [rangeI_len]; omega) (blkOk_by (N := N_read_floor) (sc := defScope s_read_floor) (by decide +kernel)) (fun x hx S2 g2 X' hb => ?_) (fun x hx _ S2 g2 X' hb => ?_) (fun S4 q4 g4 hq4 m4 => ?_) (sw_true rfl rfl rfl (by decide +kernel))
  · obtain ⟨_, _, _, _, _, rfl⟩ := hb
    have hr := mem_rangeI.mp hx
    exact tr_bool (er_call cal_is_door (u := (tileAt tl x, ())) (ar_cons (er_ix (er_var 2) (er_var 3) hr.1 (tileAt_get hr.1 (by omega))) ar_nil) trivial)
  · obtain ⟨_, _, _, _, _, rfl⟩ := hb
    exact er_var 3
  refine SB.fixM 5 g4 hq4 m4 fun S5 e5 g5 s5 hn5 => ?_
  rw [List.map_id']
  have g15 := g3.trans g5
  refine s_setN (α := List Int) 6 nd en_lst0 fun S6 q g6 hq6 m6 => ?_
  have g16 := g15.trans g6
  have hq1 : S1.H q = none := g15.h.free hq6
  refine s_for (α := Int) (xs := rangeI 0 8) PassesOwn.never rfl (it_rangeN b_range (er_gint k4) (by omega)) (bg_name 7 nd) fun S7 g7 => ?_
  refine ⟨fun r Γ' S' => ∃ sts : List (List Int), Γ' = [some ⟨tx⟩, some ⟨ps⟩, some ⟨tl⟩, none, some ⟨(rangeI 0 ps.length).map (nbrs ps)⟩, some ⟨(rangeI 0 tl.length).filter fun j => doorT (tileAt tl j)⟩, some ⟨(⟨q⟩ : Adr)⟩, none, none] ∧ Grow S1 S' ∧ Same S7.G S'.G ∧ ML S' q sts ∧ (∀ r ∈ sts, (∀ x ∈ r, 0 ≤ x ∧ x < (tl.length : Int)) ∧ r.length ≤ 36) ∧ sts.length ≤ 3 ∧ sts.length + r.length ≤ 8,
    ⟨[], rfl, g16.trans g7, Same.refl _, m6.up g7, (fun r hr => nomatch hr), by decide, by rw [rangeI_len]; decide⟩, fun r Γ' S' ⟨_, _, _, h, _⟩ => h, ?_, ?_⟩
  · rintro pre num r Γ' S' hx ⟨sts, rfl, gS, s7, m, hst, h3, h8⟩ S8 g8
    obtain ⟨ex, hrl⟩ := rangeI_at hx
    rw [List.length_cons] at h8
    refine s_setLcI (xs := rangeI 0 tl.length) (h := fun j : Int => j) 8 3 (fun j => decide (stationOf (tileAt tl j) = some num)) rfl nd (it_rangeN b_range (er_len b_len (er_var 2)) (by omega)) (by rw [rangeI_len]; omega) (blkOk_by (N := N_read_floor) (sc := defScope s_read_floor) (by decide +kernel)) (fun x hx S2 g2 X' hb => ?_) (fun x hx _ S2 g2 X' hb => ?_) (fun S9 q9 g9 hq9 m9 => ?_) (sw_true rfl rfl rfl (by decide +kernel))
    · obtain ⟨_, _, _, _, _, rfl⟩ := hb
      have hr := mem_rangeI.mp hx
      exact tr_cmp (cv_eqO (er_call cal_station_of (u := (tileAt tl x, ())) (ar_cons (er_ix (er_var 2) (er_var 3) hr.1 (tileAt_get hr.1 (by omega))) ar_nil) trivial) (er_var 7))
    · obtain ⟨_, _, _, _, _, rfl⟩ := hb
      exact er_var 3
    rw [List.map_id'] at m9
    refine SB.fixM 8 g9 hq9 m9 fun S10 e10 g10 s10 hn10 => ?_
    have mq := (m.up g8).up g10
    refine s_if (tr_list (er_var 8)) (fun t S11 g11 => ?_) (fun t S11 g11 => s_end (s_next (.keep (.keep (.keep (.keep (.keep (.keep (.keep (.drop (.drop .nil))))))))) ?_))
    · have hne : ((rangeI 0 tl.length).filter fun j => decide (stationOf (tileAt tl j) = some num)) ≠ [] := fun z => by rw [z] at t; cases t
      have hn3 : num < 3 := by
        obtain ⟨z, hz⟩ := List.exists_mem_of_ne_nil _ hne
        obtain ⟨z1, z2⟩ := List.mem_filter.mp hz
        have hr := mem_rangeI.mp z1
        exact ((tile_f (t8 _ (List.mem_of_getElem? (tileAt_get hr.1 (by omega))))).st num (of_decide_eq_true z2)).2
      refine s_app (mq.up g11) (er_var 6) (er_var 8) (by omega) fun S12 u12 m12 => s_end (s_next (.keep (.keep (.keep (.keep (.keep (.keep (.keep (.drop (.drop .nil))))))))) ?_)
      refine ⟨_, rfl, (((gS.trans g8).trans g10).trans g11).upd hq1 u12, (s7.trans ((g8.trans g10).trans g11).g).trans u12.g, m12, fun w hw => ?_, by rw [List.length_append, List.length_singleton]; omega, by rw [List.length_append, List.length_singleton]; omega⟩
      rcases List.mem_append.mp hw with hw | hw
      · exact hst w hw
      · rw [List.mem_singleton.mp hw]
        refine ⟨fun x hx => ?_, ?_⟩
        · have := mem_rangeI.mp (List.mem_filter.mp hx).1
          omega
        · have := List.length_filter_le (fun j => decide (stationOf (tileAt tl j) = some num)) (rangeI 0 tl.length)
          rw [rangeI_len] at this
          omega
    · exact ⟨sts, rfl, ((gS.trans g8).trans g10).trans g11, s7.trans ((g8.trans g10).trans g11).g, mq.up g11, hst, h3, by omega⟩
  · rintro Γ' S' ⟨sts, rfl, gS, s7, m, hst, h3, h8⟩
    refine SB.fixM 6 gS hq1 m fun S8 e8 g8 s8 hn8 => ?_
    have nl : ((rangeI 0 ps.length).map (nbrs ps)).length = tl.length := by rw [List.length_map, rangeI_len, hl]
    refine s_ret (x := (⟨(rangeI 0 ps.length).map (nbrs ps), (rangeI 0 tl.length).filter fun j => doorT (tileAt tl j), sts, ps⟩ : Flo)) (NI.er (ni_Floor (er_var 4) (er_var 5) (er_var 6) (er_var 1) (by omega) (by omega) (by omega)) fun H v h => h) fun S9 v g9 r => hq S9 v _ (u1.trans ((g8.trans g9).toUpd _) T1.there) (T1.up (g8.trans g9)) r ⟨?_, h3⟩
    have dl := List.length_filter_le (fun j => doorT (tileAt tl j)) (rangeI 0 tl.length)
    rw [rangeI_len] at dl
    have sz : Flo.size ⟨(rangeI 0 ps.length).map (nbrs ps), (rangeI 0 tl.length).filter fun j => doorT (tileAt tl j), sts, ps⟩ = (tl.length : Int) := by
      show (((rangeI 0 ps.length).map (nbrs ps)).length : Int) = _
      rw [nl]
    refine ⟨by show ((rangeI 0 ps.length).map (nbrs ps)).length ≤ 120; omega, by show ((rangeI 0 ps.length).map (nbrs ps)).length ≤ 36; omega, fun r hr x hx => ?_, fun r hr => ?_, fun x hx => ?_, by show ((rangeI 0 tl.length).filter _).length ≤ 120; omega, fun r hr x hx => ?_, fun r hr => ?_, by show sts.length ≤ 8; omega⟩
    · obtain ⟨j, _, rfl⟩ := List.mem_map.mp hr
      have := mem_rangeI.mp (List.mem_filter.mp hx).1
      rw [sz]
      omega
    · obtain ⟨j, _, rfl⟩ := List.mem_map.mp hr
      have := List.length_filter_le (fun i => memD (ps.getD i.toNat (0, 0)) (besideL (ps.getD j.toNat (0, 0)))) (rangeI 0 ps.length)
      rw [rangeI_len] at this
      show ((rangeI 0 ps.length).filter _).length ≤ 120
      omega
    · have := mem_rangeI.mp (List.mem_filter.mp hx).1
      rw [sz]
      omega
    · have := (hst r hr).1 x hx
      rw [sz]
      omega
    · have := (hst r hr).2
      omega
end
end Fl

set_option Elab.async false
set_option linter.all false
set_option maxRecDepth 100000
set_option maxHeartbeats 4000000
namespace Fl
open PySem PySem.Spec PyProof.Rows L2
/-! ### RefusedError: what the written part says -/
section
variable [c : Ctx]
abbrev rC : Addr := cRef c.K
abbrev rF : Addr := fRef c.K
structure RefOk : Prop where
  cls : ∃ nm q N bs bm sn sub ab col dd k0 k1 k2 k3 k5, c.K.lookup rC = some (excClassObj nm q rC N bs bm true sn sub ab col dd k0 k1 k2 k3 k5 "ValueError.__new__") ∧ PySem.HandSPX.refsVE bm = true ∧ PySem.W.alongIn c.K "__init__" bm = some (some (.builtin "ValueError.__init__"))
  fn : ∃ (oc : Value) (od : Option Addr) (osl : Array (Option Value)) (fd : FuncData), c.K.lookup rF = some ⟨oc, od, .func fd, osl⟩ ∧ PySem.W.codeIn c.K fd.code "RefusedError.__init__" = true ∧ fileRB c.K fd.code = true ∧ cellRB c.K rC fd.closure = true ∧ DflV c.K fd.defaults [V.int 0] ∧ KwdV c.K fd.kwdefaults []
  sa : PySem.W.findIn c.K (.ref rC) "__setattr__" = some (some (.builtin "object.__setattr__"))
  ini : PySem.W.findIn c.K (.ref rC) "__init__" = some (some (.ref rF))
  rs : PySem.W.findIn c.K (.ref rC) "reason" = some none
  ln : PySem.W.findIn c.K (.ref rC) "line" = some none
  op : PySem.W.nsIn c.K cStatics "thirdparty.any" = some none
  be : PySem.W.subIn c.K (.ref rC) (.type "BaseException") = some true
  ve : PySem.W.subIn c.K (.ref rC) (.type "ValueError") = some true
  ty : PySem.W.typeIn c.K (.ref rC) = some (.type "type")
  tf : PySem.W.typeIn c.K (.ref rF) = some (.type "function")
  kp : PySem.W.keepIn c.K (.ref rC) = true
  exm : PySem.W.exmOne c.K (.ref rC) (.ref rC) = some true
theorem clsRB_ok {K : PySem.W.Frag} {C : Addr} (h : clsRB K C = true) : ∃ nm q N bs bm sn sub ab col dd k0 k1 k2 k3 k5, K.lookup C = some (excClassObj nm q C N bs bm true sn sub ab col dd k0 k1 k2 k3 k5 "ValueError.__new__") ∧ PySem.HandSPX.refsVE bm = true ∧ PySem.W.alongIn K "__init__" bm = some (some (.builtin "ValueError.__init__")) := by
  unfold clsRB at h
  split at h
  · next t dd cd sl q =>
    split at h
    · next D bm k0 k1 k2 k3 n k5 e1 e2 =>
      simp only [Bool.and_eq_true, decide_eq_true_eq, Bool.not_eq_true'] at h
      obtain ⟨rfl, rfl, rfl, h4, h5, h6, h7⟩ := h
      obtain ⟨nm, bs, mro, ns, qn, hd, sn, sb, ab, col, dl⟩ := cd
      obtain ⟨l⟩ := sl
      have e1 : mro = Value.ref D :: bm := e1
      have e2 : l = [k0, k1, k2, k3, some (.builtin "ValueError.__new__"), k5] := e2
      have h4 : dl = false := h4
      have h5 : hd = true := h5
      subst e1 e2 h4 h5
      exact ⟨nm, qn, ns, bs, bm, sn, sb, ab, col, dd, k0, k1, k2, k3, k5, q, h6, He.eqO_ok h7⟩
    · cases h
  · cases h
theorem refOk : RefOk (c := c) := by
  have h := moreB (c := c)
  unfold exB at h
  simp only [Bool.and_eq_true] at h
  obtain ⟨h1, h2, h3, h4, h5, h6, h7, h8, h9, h10, h11, h12, h13⟩ := h
  refine ⟨clsRB_ok h1, ?_, He.eqO_ok h3, He.eqO_ok h4, He.eqO_ok h5, He.eqO_ok h6, He.eqO_ok h7, of_decide_eq_true h8, of_decide_eq_true h9, of_decide_eq_true h10, of_decide_eq_true h11, h12, of_decide_eq_true h13⟩
  unfold fnRB at h2
  cases q : c.K.lookup (fRef c.K) with
  | none => rw [q] at h2; cases h2
  | some o =>
    obtain ⟨oc, od, dt, sl⟩ := o
    rw [q] at h2
    cases dt with
    | func fd =>
      have h2 : (PySem.W.codeIn c.K fd.code "RefusedError.__init__" && (fileRB c.K fd.code && (cellRB c.K (cRef c.K) fd.closure && (He.dflB c.K fd.defaults [V.int 0] && He.kwdB c.K fd.kwdefaults [])))) = true := h2
      simp only [Bool.and_eq_true] at h2
      obtain ⟨a1, a2, a3, a4, a5⟩ := h2
      exact ⟨oc, od, sl, fd, rfl, a1, a2, a3, He.dflB_ok a4, He.kwdB_ok a5⟩
    | _ => cases h2
/-- the def as it stands -/
theorem refFn : ∃ (oc : Value) (od : Option Addr) (osl : Array (Option Value)) (dV kV doc pm : Value) (an : Option Addr) (ca cc : Addr) (ct : Value), c.K.lookup rF = some ⟨oc, od, .func (PySem.W.fnX "__init__" "RefusedError.__init__" (defArgs s_RefusedError_init) (defBody s_RefusedError_init) (defScope s_RefusedError_init) [("__class__", cc)] dV kV doc pm an (.ref ca) ct), osl⟩ ∧
    PySem.W.codeIn c.K (.ref ca) "RefusedError.__init__" = true ∧ (∃ o vs tf, c.K.lookup ca = some o ∧ o.data = .fields vs ∧ vs[2]? = some (.str (PySem.Challenge.pw_clearfloor_k94_whole_the_log_is_the_flee.main.file : Str) tf)) ∧ (∃ o, c.K.lookup cc = some o ∧ o.data = .cell (some (.ref rC))) ∧ DflV c.K dV [V.int 0] := by
  obtain ⟨oc, od, osl, fd, lk, h1, h2, h3, h4, h5⟩ := (refOk (c := c)).fn
  have hv := c.fnr
  unfold fnR at hv
  rw [lk] at hv
  obtain ⟨n1, n2, n3, n4, n5, n6, n7, n8, n9, n10, n11, n12, n13, n14, n15⟩ := fd
  have hv : (some (n1, n2, n3, n4, n5, n6, n7.map (·.1), n15) : FnR) = vaR := hv
  unfold vaR at hv
  simp only [Option.some.injEq, Prod.mk.injEq] at hv
  obtain ⟨e1, e2, e3, e4, e5, e6, e7, e8⟩ := hv
  subst e1 e2 e3 e4 e5 e6 e8
  rcases n7 with _ | ⟨⟨x, cc⟩, _ | ⟨y, r⟩⟩
  · cases e7
  · have ex : x = "__class__" := by
      have e7 : [x] = (["__class__"] : List Str) := e7
      injection e7
    subst ex
    cases n13 with
    | ref ca =>
      refine ⟨oc, od, osl, _, _, _, _, _, ca, cc, _, lk, h1, ?_, ?_, h4⟩
      · have h2 : fileRB c.K (.ref ca) = true := h2
        unfold fileRB at h2
        dsimp only at h2
        cases q : c.K.lookup ca with
        | none => rw [q] at h2; cases h2
        | some o =>
          obtain ⟨o1, o2, dt, o4⟩ := o
          rw [q] at h2
          cases dt with
          | fields vs =>
            obtain ⟨l⟩ := vs
            rcases l with _ | ⟨v0, _ | ⟨v1, _ | ⟨v2, r⟩⟩⟩
            · cases h2
            · cases h2
            · cases h2
            · cases v2 with
              | str z tk =>
                have h2 : decide ((PySem.Challenge.pw_clearfloor_k94_whole_the_log_is_the_flee.main.file : Str) = z) = true := h2
                refine ⟨_, _, tk, rfl, rfl, ?_⟩
                rw [of_decide_eq_true h2]
                rfl
              | _ => cases h2
          | _ => cases h2
      · have h3 : cellRB c.K (cRef c.K) [(("__class__" : Str), cc)] = true := h3
        unfold cellRB at h3
        dsimp only at h3
        cases q : c.K.lookup cc with
        | none => rw [q] at h3; cases h3
        | some o =>
          obtain ⟨o1, o2, dt, o4⟩ := o
          rw [q] at h3
          cases dt with
          | cell v =>
            rcases v with _ | v
            · cases h3
            cases v with
            | ref D =>
              have h3 : decide (D = cRef c.K) = true := h3
              exact ⟨_, rfl, by rw [of_decide_eq_true h3]⟩
            | _ => cases h3
          | _ => cases h3
    | _ => cases h1
  · cases e7
theorem oexR : OexC c.K rC := by
  obtain ⟨nm, q, N, bs, bm, sn, sub, ab, col, dd, k0, k1, k2, k3, k5, h1, h2, _⟩ := (refOk (c := c)).cls
  exact ⟨⟨nm, q, N, bs, bm, sn, sub, ab, col, dd, k0, k1, k2, k3, k5, h1, h2⟩, (refOk (c := c)).sa, (refOk (c := c)).be, (refOk (c := c)).ty, (refOk (c := c)).kp⟩
end
end Fl

set_option Elab.async false
set_option linter.all false
set_option maxRecDepth 100000
set_option maxHeartbeats 4000000
namespace Fl
open PySem PySem.Spec PyProof.Rows L2
section
variable [c : Ctx]
abbrev iSc : Scope := defScope s_RefusedError_init
def iEnv (L ca cc : Addr) : Env := PySem.W.envX "RefusedError.__init__" iSc L rF (.ref ca) [("__class__", cc)]
/-- within RefusedError.__init__ -/
def iX (A : Around) (outer : List Env) (s : Shared) (H : Hp) (ca cc : Addr) : Cx where
  prog := PP
  w := c.w
  K := c.K
  mg := c.mg
  base := c.base
  A := A.deeper (iEnv s.heap.objs.size ca cc)
  N := ["self", "reason", "line"]
  s_0 := s
  H_0 := H
  env := iEnv s.heap.objs.size ca cc
  outer := outer
  stack := iEnv s.heap.objs.size ca cc :: outer
  ex := []
  calm := true
  fn := fun _ => false
  pn := []
  xe := fun _ _ => False
theorem one_cell {x : Str} {cc d : Addr} (h : ([(("__class__" : Str), cc)] : List (Str × Addr)).lookup x = some d) : x = "__class__" ∧ d = cc := by
  rw [List.lookup_cons] at h
  cases e : x == ("__class__" : Str) with
  | true =>
    rw [e] at h
    exact ⟨beq_iff_eq.mp e, (Option.some.inj h).symm⟩
  | false =>
    rw [e] at h
    cases h
theorem no_cell : ∀ y ∈ iSc.names, y.2 = .cell ∨ y.2 = .free → y.1 = "__class__" := by
  intro y hy
  revert y
  decide +kernel
theorem iInv {A : Around} {outer : List Env} {s : Shared} {H : Hp} {ca cc a : Addr} {z : Str} {i : Int} {u0 u1 u2 : Value} {h0 : Heap} {tk : Tok} (hd : A.handled = none) (e0 : Env0 PP c.w c.K c.mg c.base A outer s H)
    (hc : ∃ o, c.K.lookup cc = some o ∧ o.data = .cell (some (.ref rC))) (r0 : RelV (.ref a) u0) (r1 : RelV (.str z) u1) (r2 : RelV (.int i) u2)
    (hn : h0.Ns s.heap.objs.size (fun x => ([(("self" : Str), u0), ("reason", u1), ("line", u2)] : List (Str × Value)).reverse.lookup x)) (hk : ∀ b o, s.heap.get? b = some o → h0.get? b = some o) :
    Inv (iX A outer s H ca cc) [] [some (.ref a), some (.str z), some (.int i)] H { s with heap := h0, toks := tk } := by
  obtain ⟨oc, lkc, hcd⟩ := hc
  have base_cc := e0.mod.kin _ _ lkc
  have noA : ∀ b : Addr, b ∉ (iX A outer s H ca cc).ex := fun b z => absurd (show b ∈ ([] : List Addr) from z) (by simp)
  have cell1 : ∀ {x : Str} {d : Addr}, (iX A outer s H ca cc).env.cells.lookup x = some d → x = "__class__" ∧ d = cc := fun h => one_cell h
  refine ⟨⟨e0.mod, rfl, rfl, rfl, Nat.le_refl _, fun x y d h1 h2 => ?_, fun x hx => ?_, fun x d hf _ => ?_, fun _ => hd, Around.frames_deeper e0.frames, .inr ⟨rfl, rfl⟩, fun b z => absurd z (noA b), e0.bs, e0.bsz, fun b _ _ => noA b, fun b z => absurd z (noA b), e0.funs, e0.frf⟩,
    rfl, e0.bare, Un.kept hk, ⟨_, hn, fun j x v h1 h2 h3 => ?_⟩, fun x d h => ?_, e0.hok.fresh (Nat.le_refl _), fun x d h => ?_, fun p hp => absurd (show p ∈ ([] : List (Addr × Obj)) from hp) (by simp), e0.hok.kept hk, rfl⟩
  · rw [(cell1 h1).1, (cell1 h2).1]
  · have hx2 : iSc.names.lookup x = some .cell ∨ iSc.names.lookup x = some .free := hx
    have ex : x = "__class__" := by
      rcases hx2 with h | h
      · exact no_cell _ (PySem.mem_of_lookup h) (.inl rfl)
      · exact no_cell _ (PySem.mem_of_lookup h) (.inr rfl)
    rw [ex]
    exact ⟨cc, rfl⟩
  · cases (show false = true from hf)
  · have h2 : ([some (.ref a), some (.str z), some (.int i)] : List (Option V))[j]? = some (some v) := h2
    have h1 : (["self", "reason", "line"] : List Str)[j]? = some x := h1
    rcases j with _ | _ | _ | j
    · cases h1
      cases h2
      exact ⟨u0, r0, .inl ⟨rfl, rfl⟩⟩
    · cases h1
      cases h2
      exact ⟨u1, r1, .inl ⟨rfl, rfl⟩⟩
    · cases h1
      cases h2
      exact ⟨u2, r2, .inl ⟨rfl, rfl⟩⟩
    · cases h1
  · rw [(cell1 h).2]
    exact ⟨_, oc, hk _ _ (e0.bs _ _ base_cc).1, hcd⟩
  · rw [(cell1 h).2]
    exact (e0.bs _ _ base_cc).2
/-- the promise of RefusedError.__init__ -/
def spRef : Sp := fun vs H Q _ => ∃ (a : Addr) (z : Str), vs = [.ref a, .str z, .int 0] ∧ z.length ≤ 1000 ∧ H a = some (exo a rC none) ∧ ∀ dx, H dx = none → dx ≠ a → ∃ fs, Q .non (upd (upd (upd H dx (exd dx ([("reason", V.str z)] : List (Str × V)))) a (exo a rC (some dx))) dx (exd dx fs)) ∧ fs = ([("line", V.int 0), ("reason", V.str z)] : List (Str × V))
abbrev mwV (x : Addr) : Obj := PySem.W.kxs_mw "ValueError.__init__" x
/-- super().__init__(..), called on the bound method -/
theorem call_mw {X : Cx} {pins : List (Addr × Obj)} {σ : L2.St} {H : Hp} {s : Shared} {u a : Addr} {us : List Value} {E : Value → Shared → Prop} {Q : Value → Shared → Prop} (I : Inv X pins σ H s) (T : OexC X.K rC) (hu : s.heap.get? u = some (mwV a)) (e : H a = some (exo a rC none)) (hl : us.length ≤ sizeLine) (h : ∀ s2, Inv X pins σ H s2 → Q .none s2) :
    wpAny (model X.prog X.w) X.A (call (.ref u) us) Q E s := by
  obtain ⟨nm, q, N, bs, bm, sn, sub, ab, col, dd, k0, k1, k2, k3, k5, hC, hbm⟩ := T.cls
  obtain ⟨t1, ho⟩ := exo_at I.hok e
  have hCh := I.kIn _ _ hC
  obtain ⟨hp, g, d, t, os⟩ := s
  have FB := F.excBase_ValueError
  refine wpAny_call (codeAny_of_tree ?_)
  refine (show wpAny _ X.A.in1 (callAny (.ref u) ⟨us, []⟩) _ _ _ from ?_)
  simp only [callAny]
  refine wpAny_bind (wpAny_load hu ?_)
  have isM : (Value.type "method-wrapper" == Value.type "method" || Value.type "method-wrapper" == Value.type "builtin_function_or_method" || Value.type "method-wrapper" == Value.type "method-wrapper") = true := by decide
  simp only [PySem.W.kxs_mw, isM, if_true]
  refine PySem.W.KFB.if_so (by decide) (wpAny_bind (PySem.W.check_bound_init FB.toExcCallFacts hCh ho rfl (wpAny_bind (wpAny_pure (wpAny_pure ⟨plainId_quiet FB.init.plain _, codeAny_builtin FB.initEntry ?_⟩)))))
  refine PySem.W.exc_init_tree (cls := .ref rC) (t0 := t1) (dv := none) (c2 := .none) (c3 := .none) (b4 := .bool false) ho hl fun h2 k hx _ => ?_
  have J := I.write (t' := t) (x := a) (e := a) (o := exo a rC none) (by rw [e]; exact True.intro) (.inl rfl) k ⟨_, hx⟩ (exo_ok hx)
  have eu : upd H a (exo a rC none) = H := by
    funext b
    by_cases hb : b = a
    · rw [hb, upd_same, e]
    · rw [upd_ne hb]
  rw [eu] at J
  exact h _ J
end
end Fl

set_option Elab.async false
set_option linter.all false
set_option maxRecDepth 100000
set_option maxHeartbeats 4000000
namespace Fl
open PySem PySem.Spec PyProof.Rows L2
section
variable [c : Ctx]
theorem ref_bm {D : Addr} {bm : List Value} (h : PySem.HandSPX.refsVE bm = true) : ((Value.ref D :: bm).dropWhile (· != .ref D)).drop 1 = bm := by
  rw [List.dropWhile_cons]
  simp
theorem iK1 {L ca cc : Addr} : (iEnv L ca cc).kindOf "super" = some .globalImplicit := show iSc.names.lookup ("super" : Str) = some NameKind.globalImplicit by decide +kernel
theorem iK2 {L ca cc : Addr} : (iEnv L ca cc).kindOf "__class__" = some .free := show iSc.names.lookup ("__class__" : Str) = some NameKind.free by decide +kernel
theorem iK3 {L ca cc : Addr} : (iEnv L ca cc).kindOf "self" = some .local := show iSc.names.lookup ("self" : Str) = some NameKind.local by decide +kernel
/-- super().__init__(..) evaluated -/
theorem sup_ok {A : Around} {outer : List Env} {s0 : Shared} {H0 : Hp} {ca cc a : Addr} {z : Str} {i : Int} {body : List Stmt} {p0 p1 p2 p3 : Pos} {e : Expr} {ta : TA} {H : Hp} {s : Shared} {Q : Value → Shared → Prop}
    {oc : Value} {od : Option Addr} {osl : Array (Option Value)} {fd : FuncData} {ar : Arg}
    (lkf : c.K.lookup rF = some ⟨oc, od, .func fd, osl⟩) (hp : (fd.params.posonlyargs ++ fd.params.args).head? = some ar) (har : ar.arg = "self")
    (hfile : ∃ o vs tf, c.K.lookup ca = some o ∧ o.data = .fields vs ∧ vs[2]? = some (.str (PySem.Challenge.pw_clearfloor_k94_whole_the_log_is_the_flee.main.file : Str) tf))
    (hc : ∃ o, c.K.lookup cc = some o ∧ o.data = .cell (some (.ref rC)))
    (I : Inv (iX A outer s0 H0 ca cc) [] [some (.ref a), some (.str z), some (.int i)] H s) (ea : H a = some (exo a rC none)) (ha : PA (iX A outer s0 H0 ca cc) [e] ta) (hs : starEach [e] (iEnv s0.heap.objs.size ca cc) = (false, eval e (iEnv s0.heap.objs.size ca cc)) :: starEach [] (iEnv s0.heap.objs.size ca cc))
    {pl : Sem Bool} (hev : eval (.Call (.Attribute (.Call (.Name "super" p0) [] [] p1) "__init__" p2) [e] [] p3) (iEnv s0.heap.objs.size ca cc) = (do
      let ov ← attributeBase (.Call (.Name "super" p0) [] [] p1) "__init__" (iEnv s0.heap.objs.size ca cc) (eval (.Call (.Name "super" p0) [] [] p1) (iEnv s0.heap.objs.size ca cc))
      standAt p2.atName
      let (f, first) ← holding [ov] (getMethod ov "__init__" pl)
      callWith p3 f first (backTo p3 (starEach [e] (iEnv s0.heap.objs.size ca cc))) []))
    (hta : ta [some (.ref a), some (.str z), some (.int i)] H (fun vs H1 => H1 = H ∧ vs.length ≤ 10))
    (hq : ∀ s2, Inv (iX A outer s0 H0 ca cc) [] [some (.ref a), some (.str z), some (.int i)] H s2 → Q .none s2) :
    _root_.PySem.wpAt (model PP c.w) (A.deeper (iEnv s0.heap.objs.size ca cc)) (.func body (iEnv s0.heap.objs.size ca cc)) (eval (.Call (.Attribute (.Call (.Name "super" p0) [] [] p1) "__init__" p2) [e] [] p3) (iEnv s0.heap.objs.size ca cc)) Q (fun _ _ => False) s := by
  obtain ⟨oca, vs, tf, lkca, hoca, hvs⟩ := hfile
  obtain ⟨occ, lkcc, hocc⟩ := hc
  obtain ⟨nm, q, N, bs, bm, sn, sub, ab, col, dd, k0, k1, k2, k3, k5, hC, hbm, hal⟩ := (refOk (c := c)).cls
  refine PySem.ks_wpAt_MethodCall (pl := pl) ?_ hev
  refine PySem.ks_wpAt_super_base (env := iEnv s0.heap.objs.size ca cc) iK1 iK2 (by decide +kernel) rfl (I.kIn _ _ lkf) rfl hp rfl (I.kIn _ _ lkca) hoca hvs (by decide +kernel) (by decide +kernel) ?_
  rw [har]
  obtain ⟨mb, h1, h2⟩ := I.mod.blt
  refine PySem.W.ks_loadName_global rfl iK1 (Calls.loadGlobal_builtin (env := iEnv s0.heap.objs.size ca cc) (I.mod.glob.keeps I.bk) b_super (h1.keeps I.bk) ((h2 _ (by decide)).trans PyProof.Rows.Boot.«super») ⟨rfl, ?_⟩)
  refine wpAny_loadName_free rfl iK2 rfl ⟨_, I.kIn _ _ lkcc, hocc⟩ ?_
  obtain ⟨m, hm, hloc⟩ := I.loc
  obtain ⟨u, ru, hu⟩ := hloc 0 "self" (.ref a) rfl rfl (.inl iK3)
  obtain rfl : u = Value.ref a := ru
  have hu2 : m "self" = some (.ref a) := by
    rcases hu with ⟨_, h⟩ | ⟨_, d, h, _⟩
    · exact h
    · exact absurd (one_cell (x := "self") (d := d) h).1 (by decide)
  refine wpAny_loadName_local rfl iK3 hm hu2 ?_
  obtain ⟨t1, ho⟩ := exo_at I.hok ea
  obtain ⟨hp1, g1, d1, tk1, os1⟩ := s
  have hCh := I.kIn _ _ hC
  refine PySem.ks_wpAny_isType_cls hCh rfl ⟨rfl, ?_⟩
  refine PySem.ks_wpAny_call_super hCh rfl ho rfl (fun c2 e2 => by cases e2) (PySem.W.looks_mroIn (K := c.K) I.kIn (by unfold PySem.W.mroIn PySem.W.clsIn; rw [hC]; simp)) (fun h' e' k => ?_)
  have I2 := I.kept (t' := tk1) k
  refine PySem.W.kxs_getMethod PySem.W.kxs_ValueError e' (PySem.W.looks_opaque (K := c.K) I2.kIn (refOk (c := c)).op) (l₀ := .ref rC :: bm) (l := bm) ?_ (ref_bm hbm) (K := c.K) I2.kIn hal ?_ ?_ (by decide) ?_
  · exact fun A Q E s k q => wpAny_bind ((PySem.W.looks_clsIn (K := c.K) I2.kIn (by unfold PySem.W.clsIn; rw [hC])) A _ E s k (wpAny_pure q))
  · refine PySem.W.Looks.andThen (a := .ref rC) ?_ (PySem.W.looks_subIn (K := c.K) I2.kIn (refOk (c := c)).ve)
    exact PySem.W.InstAt.type (ox := _) (od := none) ⟨k _ _ ho, rfl, rfl, trivial⟩
  · rintro rfl
    rw [hCh] at ho
    cases ho
  · have k2 : ∀ b o, h'.get? b = some o → (h'.push (mwV a)).get? b = some o := fun b o e => Heap.get?_push_of_some _ e
    have I3 := I2.kept (t' := tk1 + 1) k2
    have hmw : (h'.push (mwV a)).get? h'.objs.size = some (mwV a) := Heap.get?_push_at rfl rfl
    have I4 := Inv.pins_of (pins' := [(h'.objs.size, mwV a)]) I3 (fun p hp => by
      rw [List.mem_singleton] at hp
      subst hp
      exact ⟨hmw, I2.hok.fresh (Nat.le_refl _), Nat.ne_of_gt I2.lt, I2.nofs (Nat.le_refl _), fun v z => by cases z⟩)
    have h5 : wpAny (model PP c.w) (A.deeper (iEnv s0.heap.objs.size ca cc)) (spliced (backTo p3 (starEach [e] (iEnv s0.heap.objs.size ca cc)))) (fun vs s₁ => PySem.W.KxsAt "ValueError.__init__" h'.objs.size a s₁.heap ∧ wpAny (model PP c.w) (A.deeper (iEnv s0.heap.objs.size ca cc)) (call (.ref h'.objs.size) vs) Q (fun _ _ => False) s₁) (fun _ _ => False) ⟨h'.push (mwV a), g1, d1, tk1 + 1, os1⟩ := by
      refine thn (ha.run p3 _ _ _ _ _ I4 hta) fun us s2 hx => ?_
      obtain ⟨vs2, H2, I5, r5, e5, l5⟩ := hx
      subst e5
      have hp5 := (I5.pin (h'.objs.size, mwV a) (by simp)).1
      refine ⟨hp5, ?_⟩
      refine call_mw I5 oexR hp5 ea (by rw [← Paired.length r5, sizeLine_eq]; omega) fun s6 I6 => ?_
      exact hq s6 (Inv.pins_of I6 fun p hp => by cases hp)
    refine PySem.W.kxs_callWith (i := "ValueError.__init__") (x := a) (by rw [hs]; rfl) ?_
    rw [hs] at h5 ⊢
    exact Calls.evalArgs_plain h5
end
end Fl

set_option Elab.async false
set_option linter.all false
set_option maxRecDepth 100000
set_option maxHeartbeats 4000000
namespace Fl
open PySem PySem.Spec PyProof.Rows L2
section
variable [c : Ctx]
theorem ref_len : ∀ vs H Q E, spRef (c := c) vs H Q E → vs.length = (["self", "reason", "line"] : List Str).length := by
  rintro vs H Q E ⟨a, z, rfl, _⟩
  rfl
abbrev rfd (dV kV doc pm ct : Value) (an : Option Addr) (ca cc : Addr) : FuncData := PySem.W.fnX "__init__" "RefusedError.__init__" (defArgs s_RefusedError_init) (defBody s_RefusedError_init) (defScope s_RefusedError_init) [("__class__", cc)] dV kV doc pm an (.ref ca) ct
theorem iLoc : ∀ n ∈ (["self", "reason", "line"] : List Str), iSc.names.lookup n = some NameKind.local := by decide +kernel
theorem iNoCell : ∀ x ∈ iSc.names, x.2 ≠ NameKind.cell := by decide +kernel
theorem iVis {A : Around} {outer : List Env} {s0 : Shared} {H0 : Hp} {ca cc : Addr} {n : Str} (h : n ∈ (["self", "reason", "line"] : List Str)) : Vis (iX A outer s0 H0 ca cc).env.scope n := .inl (iLoc n h)
theorem cat_len {x y : Str} {n : Nat} (hx : x.length ≤ n) (hy : y.length ≤ 2000) (hn : n ≤ 10000) : (x ++ y).length ≤ sizeLine := by
  rw [len_app, sizeLine_eq]
  omega
theorem ref_ok {k : Nat} {dV kV doc pm ct oc : Value} {an od : Option Addr} {osl : Array (Option Value)} {ca cc : Addr} (lk : c.K.lookup rF = some ⟨oc, od, .func (rfd dV kV doc pm ct an ca cc), osl⟩) (hcd : PySem.W.codeIn c.K (.ref ca) "RefusedError.__init__" = true)
    (hfile : ∃ o vs tf, c.K.lookup ca = some o ∧ o.data = .fields vs ∧ vs[2]? = some (.str (PySem.Challenge.pw_clearfloor_k94_whole_the_log_is_the_flee.main.file : Str) tf))
    (hc : ∃ o, c.K.lookup cc = some o ∧ o.data = .cell (some (.ref rC))) : FnOk PP c.w c.K c.mg c.base CX0 (k + 1) rF (rfd dV kV doc pm ct an ca cc) ["self", "reason", "line"] spRef := by
  refine ⟨ref_len, fun A outer s H args us vs Q E hr e0 hb r hsp => ?_⟩
  obtain ⟨a, z, rfl, hz, ea, hq⟩ := hsp
  have KX : c.K.In s.heap := e0.mod.kin.keeps fun b o e => (e0.bs b o e).1
  have lim : s.heap.NoLimit := e0.mod.nolimit.keeps fun b o e => (e0.bs b o e).1
  cases r with
  | @cons _ u0 _ us r0 r =>
  cases r with
  | @cons _ u1 _ us r1 r =>
  cases r with
  | @cons _ u2 _ us r2 r =>
  cases r
  refine PySem.ks_codeAny_call_defAt hr.depth (KX _ _ lk) rfl lim (PySem.W.codeRec_of KX hcd) rfl hb iNoCell (fun y hy => iLoc y.1 (List.of_mem_zip (a := y.1) (b := y.2) hy).1) fun h0 hn hk => ?_
  have I := iInv (ca := ca) (cc := cc) (tk := s.toks + 3) hr.hd e0 hc r0 r1 r2 hn hk
  refine PySem.ks_wpAt_execs_cons (PySem.ks_wpAt_Expr_any ?_)
  refine PySem.ks_wpAt_mono (sup_ok (Q := fun _ s2 => Inv (iX A outer s H ca cc) [] [some (.ref a), some (.str z), some (.int 0)] H s2) lk rfl rfl hfile hc I ea
    (pa_cons (pe_joined (.cons pe_str (.cons (pe_fmt (pe_var (i := 2) rfl (iVis (by decide)))) (.cons pe_str (.cons (pe_fmt (pe_var (i := 1) rfl (iVis (by decide)))) .nil))))) pa_nil rfl) rfl
    rfl ?hta (fun s2 I2 => I2)) (fun _ s2 I2 => ?_) (fun _ _ z => z.elim)
  case hta => exact ⟨"line ", rfl, cat_len (n := 0) (Nat.le_refl _) (by decide) (by decide), .int 0, rfl, .inr ⟨0, rfl, by decide, _, rfl, cat_len (n := 5) (by decide) (by decide) (by decide), ": ", rfl, cat_len (n := 6) (by decide +kernel) (by decide) (by decide), .str z, rfl, .inl ⟨z, rfl, by rw [sizeLine_eq]; omega, z, rfl, cat_len (n := 8) (by decide +kernel) (by omega) (by decide), rfl, by show 1 ≤ 10; decide⟩⟩⟩
  refine wpAt_of_wpAny (wpAny_mono ((pss_cons (ps_ost (pe_var (i := 0) rfl (iVis (by decide))) (pe_var (i := 1) rfl (iVis (by decide)))) (pss_one (ps_ost (pe_var (i := 0) rfl (iVis (by decide))) (pe_var (i := 2) rfl (iVis (by decide)))))).run [] s2 _ _ { nx := fun _ H' => Q .non H', rt := Q } I2 ?hq) (fun fl s' hs => ?_) (fun e s' hs => hs.elim))
  case hq =>
    refine ⟨.str z, rfl, .ref a, rfl, a, rC, rfl, oexR, (refOk (c := c)).rs, .inl ⟨ea, fun dx n ne => ?_⟩⟩
    obtain ⟨fs, q, rfl⟩ := hq dx n ne
    refine ⟨.int 0, rfl, .ref a, rfl, a, rC, rfl, oexR, (refOk (c := c)).ln, .inr ⟨dx, _, upd_same, ?_, ?_, q⟩⟩
    · rw [upd_ne ne, upd_same]
    · show 1 ≤ 900; omega
  have fin : ∀ {σ' : L2.St} {H' : Hp} {v : V} {u : Value}, Inv (iX A outer s H ca cc) [] σ' H' s' → RelV v u → Q v H' → CE outer PP c.w H s Q u s' :=
    fun {σ' H' v u} J rv q => ⟨v, H', J.os, J.bare, J.base, J.hok, rv, q⟩
  cases fl with
  | ret u =>
    obtain ⟨v, σ', H', J, rv, q⟩ := hs
    exact fin J rv q
  | next =>
    obtain ⟨σ', H', J, q⟩ := hs
    exact fin (v := V.non) (u := Value.none) J rfl q
  | brk =>
    obtain ⟨_, _, _, q⟩ := hs
    exact False.elim q
  | cont =>
    obtain ⟨_, _, _, q⟩ := hs
    exact False.elim q
/-- RefusedError's __init__, with what a call binds -/
theorem ref_init {k : Nat} : ∃ (fd : FuncData) (ds : List Value), FnOk PP c.w c.K c.mg c.base CX0 (k + 1) rF fd ["self", "reason", "line"] spRef ∧ Vals [V.int 0] ds ∧ Binds c.K fd ["self", "reason", "line"] ds := by
  obtain ⟨oc, od, osl, dV, kV, doc, pm, an, ca, cc, ct, lk, hcd, hfile, hc, hD⟩ := refFn (c := c)
  rcases hD with ⟨e, _⟩ | ⟨_, T, o, its, m, rfl, lT, oT, rT⟩
  · cases e
  · refine ⟨_, its, ref_ok lk hcd hfile hc, rT, fun s us X hlen => ?_⟩
    cases rT with
    | @cons _ u _ ws r rT =>
    cases rT
    rcases us with _ | ⟨u0, _ | ⟨u1, _ | ⟨u2, us⟩⟩⟩
    · cases hlen
    · cases hlen
    · refine BindsTo.of_looks fun M => ?_
      have e1 : ∃ k, bindArgs (rfd (.ref T) kV doc pm ct an ca cc) ⟨[u0, u1], []⟩ = seqItems? (.ref T) >>= k ∧ k (some ([u].toArray)) = pure ((["self", "reason", "line"] : List Str).zip ([u0, u1] ++ [u])) := ⟨_, rfl, rfl⟩
      obtain ⟨k, e1, e2⟩ := e1
      rw [e1]
      exact looks_items X lT oT (.of_pure e2)
    · simp at hlen
end
end Fl

set_option Elab.async false
set_option linter.all false
set_option maxRecDepth 100000
set_option maxHeartbeats 4000000
namespace Fl
open PySem PySem.Spec PyProof.Rows L2
/-! ### what an event does -/
def movedF (F : Flt) : Ev → Flt
  | .ord a b => { F with orders := F.orders ++ [⟨a, b, false, none, false⟩] }
  | .one k r => if k = "go" then ((actOf F r).map (·.2)).getD F else if k = "fail" then brokenDown F r else putRob F r ⟨F.floor.depot, false, []⟩
def happenF (F : Flt) (ev : Ev) : Flt := assignF (movedF F ev)
/-- what stays over an event -/
structure Next (F G : Flt) : Prop where
  ok : G.Ok
  s : Same0 F G
  no : G.orders.length ≤ F.orders.length + 1
theorem okOne_rng {F : Flt} {k : Str} {r : Int} (h : okOne F k r = true) : 0 ≤ r ∧ r < F.robots.length := by
  unfold okOne at h
  obtain ⟨h1, _⟩ := He.ba h
  obtain ⟨h2, h3⟩ := He.ba h1
  exact ⟨of_decide_eq_true h2, of_decide_eq_true h3⟩
theorem moved_ok [Ctx] {F : Flt} (ok : F.Ok) (hl : F.orders.length < 1000) {ev : Ev} (h : okEv F ev = true) : Next F (movedF F ev) := by
  cases ev with
  | ord a b =>
    have h : okOrder F a b = true := h
    unfold okOrder at h
    obtain ⟨h1, h2⟩ := He.ba h
    obtain ⟨a0, a1⟩ := He.ba h1
    obtain ⟨h3, _⟩ := He.ba h2
    obtain ⟨b0, b1⟩ := He.ba h3
    refine ⟨⟨ok.fl, ok.n4, ok.rob, ok.nd, ?_, fun o ho => ?_, ok.pt0, ok.pt1⟩, ⟨rfl, rfl, rfl⟩, ?_⟩
    · show (F.orders ++ [_]).length ≤ 1000
      rw [List.length_append, List.length_singleton]
      omega
    · rcases List.mem_append.mp ho with ho | ho
      · exact ok.odr o ho
      · rw [List.mem_singleton.mp ho]
        exact ⟨of_decide_eq_true a0, of_decide_eq_true a1, of_decide_eq_true b0, of_decide_eq_true b1, fun r hr => by cases hr⟩
    · show (F.orders ++ [_]).length ≤ _
      rw [List.length_append, List.length_singleton]
      exact Nat.le_refl _
  | one k r =>
    have h : okOne F k r = true := h
    obtain ⟨r0, r1⟩ := okOne_rng h
    have kp : ∀ {G : Flt}, Kept F G → Next F G := fun k => ⟨k.ok, k.s, by rw [k.no]; omega⟩
    show Next F (if k = "go" then ((actOf F r).map (·.2)).getD F else if k = "fail" then brokenDown F r else putRob F r ⟨F.floor.depot, false, []⟩)
    split
    · cases e : actOf F r with
      | none => exact kp (.refl ok)
      | some y => exact kp (actOf_ok ok r0 r1 e)
    · split
      · exact kp (brokenDown_ok ok r0 r1)
      · refine ⟨put_ok ok r0 r1 ⟨?_, Int.le_refl _, (fun x hx => by cases hx), fun _ => rfl, fun _ z => absurd rfl z⟩ List.nodup_nil (fun z hz => by cases hz), ⟨rfl, rfl, by show (F.robots.set _ _).length = _; rw [List.length_set]⟩, Nat.le_succ _⟩
        show (0 : Int) ≤ (F.floor.near.length : Int)
        omega
theorem happen_ok [Ctx] {F : Flt} (ok : F.Ok) (hl : F.orders.length < 1000) {ev : Ev} (h : okEv F ev = true) : Next F (happenF F ev) := by
  have m := moved_ok ok hl h
  have k := assignGo_ok (movedF F ev).robots.length m.ok
  exact ⟨k.ok, ⟨k.s.fl.trans m.s.fl, k.s.pt.trans m.s.pt, k.s.nr.trans m.s.nr⟩, by rw [show (happenF F ev).orders.length = _ from k.no]; exact m.no⟩
theorem happen_none [Ctx] {F : Flt} (ok : F.Ok) (hl : F.orders.length < 1000) {ev : Ev} (h : okEv F ev = true) : nextOrder (happenF F ev) = none := assign_none (moved_ok ok hl h).ok
/-! ### defs that raise -/
/-- the context of the body of a def that may raise -/
abbrev hx [c : Ctx] (d : He.DefD) (N : List Str) (f : Addr) (cdv : Value) (A : Around) (outer : List Env) (s : Shared) (H : Hp) (E : XK) : Cx :=
  cxOf (L2.CX PP c.w) PP c.w c.K c.mg c.base N d.qual d.scope f cdv A outer s H E
structure CalX [c : Ctx] (nm : Str) (k : Nat) (sp : Sp) : Prop where
  ex : ∃ (f : Addr) (fd : FuncData) (ps : List Str), FnOk PP c.w c.K c.mg c.base (L2.CX PP c.w) k f fd ps sp ∧ c.mg nm = some (.ref f) ∧ PySem.W.keepIn c.K (.ref f) = true ∧ Binds c.K fd ps []
section
variable [c : Ctx]
theorem inC_hx {d : He.DefD} {N : List Str} {f : Addr} {cdv : Value} {A : Around} {outer : List Env} {s : Shared} {H : Hp} {E : XK} {k : Nat} (hr : Room k (A.deeper (envOfC d.qual d.scope s.heap.objs.size f cdv))) : InC k (hx d N f cdv A outer s H E) :=
  ⟨rfl, rfl, rfl, rfl, rfl, hr, rfl⟩
theorem takes_hx {d : He.DefD} {N : List Str} {f : Addr} {cdv : Value} {A : Around} {outer : List Env} {s : Shared} {H : Hp} {E : XK} : Takes (hx d N f cdv A outer s H E) (fun cls d _ H => E cls d H) := takes_of rfl rfl rfl rfl
theorem fn_spX {d : He.DefD} {i : Nat} {k : Nat} {N ps : List Str} {sp : Sp} (hi : fn[i]? = some d) (sc : FnScope N ps d.scope) (hlen : ∀ vs H Q E, sp vs H Q E → vs.length = ps.length)
    (body : ∀ (f : Addr) (cdv : Value) (A : Around) (outer : List Env) (s : Shared) (H : Hp) (vs : List V) (Q : VK) (E : XK), InC k (hx d N f cdv A outer s H E) → sp vs H Q E → wB (hx d N f cdv A outer s H E) d.body { nx := fun _ H' => Q .non H', rt := Q } (L2.start N vs) H) :
    ∃ fd, FnOk PP c.w c.K c.mg c.base (L2.CX PP c.w) (k + 1) (He.fAd c.K d.at_) fd ps sp ∧ FunD c.K d.name d.qual d.params d.body d.scope (d.dvs c.K) (d.kws c.K) (He.fAd c.K d.at_) fd := by
  obtain ⟨fd, F⟩ := c.says.d.def_ i hi
  exact ⟨fd, F.ok sc hlen (fun cdv A outer s H vs Q E hr h => ⟨_, pss_w, body (He.fAd c.K d.at_) cdv A outer s H vs Q E (inC_hx hr) h⟩), F⟩
theorem up_new {H : Hp} {a dx : Addr} {o1 o2 : HO} {o3 o4 : HO} (na : H a = none) (ne : dx ≠ a) : upd (del (upd (upd (upd (upd H a o1) dx o2) a o3) dx o4) a) dx (.xd []) = upd H dx (.xd []) := by
  funext b
  by_cases hb : b = dx
  · rw [hb, upd_same, upd_same]
  · rw [upd_ne hb, upd_ne hb]
    by_cases ha : b = a
    · rw [ha, del_same, na]
    · rw [del_ne ha, upd_ne hb, upd_ne ha, upd_ne hb, upd_ne ha]
theorem up_newF {H : Hp} {a dx : Addr} {o1 o2 o3 o4 o5 : HO} (na : H a = none) (ne : dx ≠ a) : upd (del (upd (upd (upd (upd H a o1) dx o2) a o3) dx o4) a) dx o5 = upd H dx o5 := by
  funext b
  by_cases hb : b = dx
  · rw [hb, upd_same, upd_same]
  · rw [upd_ne hb, upd_ne hb]
    by_cases ha : b = a
    · rw [ha, del_same, na]
    · rw [del_ne ha, upd_ne hb, upd_ne ha, upd_ne hb, upd_ne ha]
/-- raise RefusedError(e) -/
theorem s_raiseR {k0 : Nat} {X : Cx} {e : Expr} {Γ : Gm} {S : HS} {D : Ends} {rest : List Stmt} {z : Str} {p pos pos' : Pos} {E : XK} [hX : InC k0 X] (tk : Takes X (fun cls d _ H => E cls d H)) (he : ER X e Γ S z) (hz : z.length ≤ 1000)
    (k : ∀ (S1 : HS) (d : Option Addr), Grow S S1 → E (.ref rC) d S1.H) (hj : 2 ≤ k0 := by decide) (hg : Gl X "RefusedError" := by rfl) (hs : starEach [e] X.env = (false, eval e X.env) :: starEach [] X.env := by rfl) (hpl : (backTo pos (starEach [] X.env)).any (·.1) = false := by rfl) :
    SB X (.Raise (some (.Call (.Name "RefusedError" p) [e] [] pos)) none pos' :: rest) D Γ S := fun σ hσ => by
  obtain ⟨fd, ds, FF, hv, hb⟩ := ref_init (c := c) (k := 0)
  refine w_cons (w_ps (ps_raise hX.calm tk (pmk_oex (CX := CX0) (by rw [hX.K]; exact oexR) (by rw [hX.K]; exact (refOk (c := c)).ini) (by rw [hX.K]; exact (refOk (c := c)).tf) (fn_in hX FF) (hX.room.mono hj) (by rw [hX.K]; exact hb) hv pass0 hg (by rw [hX.mg]; exact g_RefusedError) (pa_cons pe_w pa_nil hs) (by decide) hs hpl)) ?_)
  refine he σ hσ S (.refl _) _ fun S1 v g1 rv => ?_
  cases (show v = V.str z from rv)
  refine ⟨(by show 1 ≤ 1000; decide), fun a ha => ⟨a, z, rfl, hz, upd_same, fun dx n ne => ⟨_, ⟨rfl, dx, _, ?_, upd_same, ?_, ?_⟩, rfl⟩⟩⟩
  · rw [upd_ne ne.symm, upd_same]
  · rw [upd_ne ne] at n
    exact n
  · rw [upd_ne ne] at n
    rw [up_newF ha ne]
    exact k (S1.new dx _ n) (some dx) (g1.trans (.new S1 dx _ n))
end
end Fl

set_option Elab.async false
set_option linter.all false
set_option maxRecDepth 100000
set_option maxHeartbeats 4000000
namespace Fl
open PySem PySem.Spec PyProof.Rows L2
theorem MF.old [Ctx] {S0 S1 S : HS} {p : Addr} {F : Flt} (h : MF S1 S p F) (g : Grow S0 S1) : MF S0 S p F := by
  obtain ⟨r, o, qs, m, f⟩ := h
  exact ⟨r, o, qs, m, fun a ha => g.h.free (f a ha)⟩
section
variable {X : Cx} {a e : Expr} {Γ : Gm} {S : HS} {pos : Pos}
/-- p.append(a new instance) -/
theorem s_appN [Ctx] {p : Addr} {xs : List Adr} {cls : Str} {fl : List (Str × TV)} {apos pos' : Pos} {D : Ends} {rest : List Stmt} (hm : ML S p xs) (ha : ER X a Γ S (⟨p⟩ : Adr)) (he : NI X e Γ S cls fl) (hz : xs.length < 100000)
    (k : ∀ (S1 : HS) (q : Addr) (S2 : HS), Grow S S1 → S.H q = none → MI S1 q cls fl → Upd S1 p S2 → ML S2 p (xs ++ [⟨q⟩]) → SB X rest D Γ S2)
    (hs : swapsWith (.Call (.Attribute a "append" apos) [e] [] pos) none pos'.line X.env = pure false := by rfl)
    (hbase : attributeBase a "append" X.env (eval a X.env) = eval a X.env := by rfl)
    (hfew : ((backTo pos (starEach [e] X.env)).all (fun x => !x.1) && (backToKw pos (keywordEach [] X.env)).all (fun x => x.1.isSome) && decide (([e] : List Expr).length + ([] : List Keyword).length + (if ([] : List Keyword).isEmpty then 0 else 1) < 30)) = true := by rfl)
    (hline : (apos.endLine == pos.line) = true := by rfl) (hst : starEach [e] X.env = [(false, eval e X.env)] := by rfl) : SB X (.Expr (.Call (.Attribute a "append" apos) [e] [] pos) pos' :: rest) D Γ S := fun σ hσ => by
  refine w_cons (w_ps (ps_expr (pe_bm PySem.F.plainAttrs_list PySem.F.slot_list_append PySem.F.type_list_append mt_append pe_w (pa_cons pe_w pa_nil hst) hbase hfew hline hst) hs) (ha σ hσ S (.refl _) _ fun S1 u g1 ru => ?_))
  obtain ⟨_, vs, h2, r⟩ := hm.up g1
  cases (show u = V.ref p from ru)
  refine ⟨.inl ⟨rfl, vs, SqL.of h2⟩, he σ hσ S1 g1 _ fun S2 w g2 hw mw => ?_⟩
  obtain ⟨n3, vs3, h3, r3⟩ := hm.up (g1.trans g2)
  refine ⟨p, vs3, .ref w, rfl, rfl, h3, by rw [r3.len]; exact Nat.lt_of_lt_of_le hz (by decide), ?_⟩
  exact k S2 w (S2.add p (.lst (vs3 ++ [V.ref w])) n3) (g1.trans g2) (g1.h.free hw) mw (Upd.add n3) ⟨n3, vs3 ++ [V.ref w], upd_same, r3.app (.cons rfl .nil)⟩ σ (hσ.mono (g1.trans g2).g)
end
section
variable [c : Ctx]
def SpH : Sp := fun vs H Q E => ∃ (S : HS) (F : Flt) (ev : Ev), S.H = H ∧ Args.reps S.G vs (F, ev, ()) ∧ F.Ok ∧ F.orders.length < 1000 ∧ ev.Ok ∧
  (okEv F ev = true → ∀ (S1 : HS) (r : V), Grow S S1 → Rp.rep S1.G r (⟨happenF F ev⟩ : New S.H Flt) → Q r S1.H) ∧ (okEv F ev = false → ∀ (S1 : HS) (d : Option Addr), Grow S S1 → E (.ref rC) d S1.H)
theorem calX_happen : CalX "happen" 13 SpH := by
  obtain ⟨fd, FF, G⟩ := fn_spX (d := d_happen) (i := i_happen) (sp := SpH) (k := 12) rfl sc_happen (fun vs H Q E ⟨S, F, ev, _, hr, _⟩ => Args.len hr) (fun f cdv A outer s H vs Q E hX h => by
    obtain ⟨S, F, ev, rfl, hr, ok, hl, evok, hq, hf⟩ := h
    have nd := sc_happen.nd
    have hlv : vs.length = 2 := Args.len hr
    have hs : Slots S.G (L2.start N_happen vs) [some ⟨F⟩, some ⟨ev⟩, none, none, none] := by
      unfold L2.start
      rw [hlv]
      exact Args.sl (n := 3) hr
    refine (show SB (hx d_happen N_happen f cdv A outer s S.H E) (defBody s_happen) { nx := fun _ H' => Q .non H', rt := Q } [some ⟨F⟩, some ⟨ev⟩, none, none, none] S from ?_) _ hs
    refine s_setV 2 nd (ev_call cal_why_not (u := (F, ev, ())) (ar_cons (er_var 0) (ar_cons (er_var 1) ar_nil)) ⟨ok, evok⟩) fun S1 y g1 hy => ?_
    obtain ⟨hy1, hy2⟩ : RP (okEv F ev) y := hy
    refine s_if (tr_cmp (cv_notN (er_var 2))) (fun t S2 g2 => ?_) (fun t S2 g2 => s_end ?_)
    · obtain ⟨z, rfl⟩ := Option.isSome_iff_exists.mp t
      exact s_raiseR takes_hx (er_out (x := z) (er_var 2)) (hy2 z rfl) fun S3 d g3 => hf hy1.symm S3 d ((g1.trans g2).trans g3)
    have hn : y = none := by
      cases y with
      | none => rfl
      | some z => cases t
    have hok : okEv F ev = true := by rw [← hy1, hn]; rfl
    have g12 := g1.trans g2
    have fin : ∀ (S' : HS) (p : Addr) (Γ' : Gm), Γ'[4]? = some (some ⟨(⟨p⟩ : Adr)⟩) → Grow S S' → MF S S' p (movedF F ev) → SB (hx d_happen N_happen f cdv A outer s S.H E) ((defBody s_happen).drop 4) { nx := fun _ H' => Q .non H', rt := Q } Γ' S' := by
      intro S' p Γ' hΓ gg hM
      have hl4 : 4 < Γ'.length := (List.getElem?_eq_some_iff.mp hΓ).1
      refine st_assign gg hM (moved_ok ok hl hok).ok (er_var 4 hΓ) (fun S5 g5 s5 m5 => ?_)
      refine SB.fixN 4 g5 m5 (fun S6 e6 g6 s6 => ?_) hΓ
      exact s_ret (er_var 4 (x := (⟨happenF F ev⟩ : New S.H Flt)) (List.getElem?_set_self hl4)) fun S7 v g7 rv => hq hok S7 v (g6.trans g7) rv
    refine s_set (x := ev.kind) 3 nd (er_ev0 (er_var 1)) fun S3 g3 => ?_
    have g13 := g12.trans g3
    refine s_if (tr_cmp (cv_eqS (er_var 3) er_str)) (fun t S4 g4 => ?_) (fun t S4 g4 => ?_)
    · have hk : ev.kind = "go" := of_decide_eq_true t
      cases ev with
      | ord a b => exact absurd (show ("order" : Str) = "go" from hk) (by decide)
      | one k r =>
        have hk : k = "go" := hk
        have ho : okOne F k r = true := hok
        obtain ⟨r0, r1⟩ := okOne_rng ho
        have hs1 : (actOf F r).isSome = true := by
          unfold okOne at ho
          have h3 := (He.ba (He.ba (He.ba ho).2).2).2
          rw [hk] at h3
          exact h3
        obtain ⟨⟨nm, G⟩, hG⟩ := Option.isSome_iff_exists.mp hs1
        have em : movedF F (.one k r) = G := by
          show (if k = "go" then ((actOf F r).map (·.2)).getD F else _) = G
          rw [if_pos hk, hG]
          rfl
        have g14 := g13.trans g4
        refine s_set (x := (⟨G⟩ : New S.H Flt)) 4 nd (ER.less (er_sndN (s := nm) (er_outN (x := (nm, G)) (by rw [← hG]; exact er_callN cal_act_of (u := (F, r, ())) (ar_cons (er_var 0) (ar_cons (er_ev1 (e := .one k r) (er_var 1)) ar_nil)) ⟨ok, r0, r1⟩))) g14) fun S5 g5 => s_end ?_
        exact SB.thawN 4 (g14.trans g5) fun S6 p e6 g6 m6 => fin S6 p _ rfl g6 (by rw [em]; exact m6)
    have k1 : ¬ ev.kind = "go" := of_decide_eq_false t
    refine s_if (tr_cmp (cv_eqS (er_var 3) er_str)) (fun t S5 g5 => ?_) (fun t S5 g5 => ?_)
    · have hk : ev.kind = "fail" := of_decide_eq_true t
      cases ev with
      | ord a b => exact absurd (show ("order" : Str) = "fail" from hk) (by decide)
      | one k r =>
        have hk : k = "fail" := hk
        obtain ⟨r0, r1⟩ := okOne_rng (show okOne F k r = true from hok)
        have em : movedF F (.one k r) = brokenDown F r := by
          show (if k = "go" then _ else if k = "fail" then brokenDown F r else _) = _
          rw [if_neg (show ¬ k = "go" from k1), if_pos hk]
        have g15 := (g13.trans g4).trans g5
        refine s_set (x := (⟨brokenDown F r⟩ : New S.H Flt)) 4 nd (ER.less (er_callN cal_broken_down (u := (F, r, ())) (ar_cons (er_var 0) (ar_cons (er_ev1 (e := .one k r) (er_var 1)) ar_nil)) ⟨ok, r0, r1⟩) g15) fun S6 g6 => s_end (s_end ?_)
        exact SB.thawN 4 (g15.trans g6) fun S7 p e7 g7 m7 => fin S7 p _ rfl g7 (by rw [em]; exact m7)
    have k2 : ¬ ev.kind = "fail" := of_decide_eq_false t
    have g15 := (g13.trans g4).trans g5
    refine s_twin 4 nd (er_var 0) ok.few fun S6 p g6 hM => ?_
    have g16 := g15.trans g6
    have hM := hM.old g15
    refine s_if (tr_cmp (cv_eqS (er_var 3) er_str)) (fun t S7 g7 => ?_) (fun t S7 g7 => ?_)
    · have hk : ev.kind = "order" := of_decide_eq_true t
      cases ev with
      | one k r => exact absurd hk evok
      | ord a b =>
        obtain ⟨rr, l, qs, m, fr⟩ := hM
        have m7 := m.up g7
        have hlen : qs.length = F.orders.length := Paired.length m.iq
        refine s_appN m7.io (er_fldM (t := ⟨(⟨l⟩ : Adr)⟩) m7.ip lM_orders c_Fleet n_Fleet_orders (er_var 4)) (ni_Order (er_ev1 (e := .ord a b) (er_var 1)) (er_ev2 (er_var 1))) (by rw [List.length_map, hlen]; omega) fun S8 q S9 g8 q0 m8 u9 l9 => s_end (s_end (s_end ?_))
        have hlc : l ∈ cells p rr l qs := List.mem_cons_of_mem _ (List.mem_cons_of_mem _ List.mem_cons_self)
        have g17 := g16.trans g7
        refine fin S9 p _ rfl ((g17.trans g8).upd (fr l hlc) u9) ⟨rr, l, qs ++ [q], m7.more g8 q0 m8 u9 l9, fun a ha => ?_⟩
        have hmem : a ∈ cells p rr l qs ∨ a = q := by
          rcases List.mem_append.mp (show a ∈ (p :: rr :: l :: qs) ++ [q] from ha) with h | h
          · exact .inl h
          · exact .inr (List.mem_singleton.mp h)
        rcases hmem with h | h
        · exact fr a h
        · rw [h]
          exact g17.h.free q0
    · have k3 : ¬ ev.kind = "order" := of_decide_eq_false t
      cases ev with
      | ord a b => exact absurd rfl k3
      | one k r =>
        obtain ⟨r0, r1⟩ := okOne_rng (show okOne F k r = true from hok)
        have em : movedF F (.one k r) = putRob F r ⟨F.floor.depot, false, []⟩ := by
          show (if k = "go" then _ else if k = "fail" then brokenDown F r else _) = _
          rw [if_neg (show ¬ k = "go" from k1), if_neg (show ¬ k = "fail" from k2)]
        obtain ⟨rr, l, qs, m, fr⟩ := hM
        refine s_setRob (x := ⟨F.floor.depot, false, []⟩) (g16.trans g7) ⟨rr, l, qs, m.up g7, fr⟩ (NI.er (ni_Robot1 (eFlo_depot (eFlt_floor (er_var 0)))) fun H v h => h) (er_var 4) (er_ev1 (e := .one k r) (er_var 1)) r0 r1 fun S8 g8 s8 hM8 => s_end (s_end (s_end ?_))
        exact fin S8 p _ rfl g8 (by rw [em]; exact hM8))
  have e1 : d_happen.dvs c.K = [] := rfl
  have e2 : d_happen.kws c.K = [] := rfl
  have kp := G.kp
  exact ⟨_, fd, _, FF, g_happen, kp, FunD.bindsN G (fun _ _ _ _ _ _ us hl => match us, hl with | [_, _], _ => rfl)⟩
end
end Fl

set_option Elab.async false
set_option linter.all false
set_option maxRecDepth 100000
set_option maxHeartbeats 4000000
namespace Fl
open PySem PySem.Spec PyProof.Rows L2
/-- a try whose body lets nothing out -/
theorem s_tryThru {X : Cx} {Γ : Gm} {S : HS} {D : Ends} {body rest : List Stmt} {h₀ : ExceptHandler} {hs : List ExceptHandler} {pos : Pos} (h : SB X.nox body { D with nx := fun σ' H' => wB X rest D σ' H' } Γ S) : SB X (.Try body (h₀ :: hs) [] [] pos :: rest) D Γ S :=
  fun σ hσ => w_cons (w_ps (ps_try_thru0 pss_w) (h σ hσ))
instance inC_nox [Ctx] {k : Nat} {X : Cx} [h : InC k X] : InC k X.nox := ⟨h.prog, h.w, h.K, h.mg, h.base, h.room, h.calm⟩
def movedO (F : Flt) (ev : Ev) : Option Flt := if okEv F ev = true then some (happenF F ev) else none
section
variable [c : Ctx]
theorem rep_someF {G H0 : Hp} {v : V} {x : Flt} (r : Rp.rep G v (⟨x⟩ : New H0 Flt)) : Rp.rep G v (⟨some x⟩ : New H0 (Option Flt)) := ⟨by
  obtain ⟨T, p, _, _, _, _, e, _⟩ := r
  rw [e]
  exact fun z => (by cases z), r⟩
theorem cal_law_moved : Cal "_law_moved" 14 (SpF (fun a : Flt × Ev × Unit => a.1.Ok ∧ a.1.orders.length < 1000 ∧ a.2.1.Ok) fun a => movedO a.1 a.2.1) := by
  refine mkCalN (d := d_law_moved) i_law_moved sc_law_moved g_law_moved (fun f cdv A outer s S a Q E hp hX hq => ?_) (hb := fun _ _ _ _ _ _ us hl => match us, hl with | [_, _], _ => rfl)
  obtain ⟨F, ev, ⟨⟩⟩ := a
  obtain ⟨ok, hl, evok⟩ : F.Ok ∧ F.orders.length < 1000 ∧ ev.Ok := hp
  replace hq : ∀ (S1 : HS) (v : V) (y : Option Flt), Grow S S1 → Rp.rep S1.G v (⟨y⟩ : New S.H (Option Flt)) → y = movedO F ev → Q v S1.H := hq
  show SB _ _ _ [some ⟨F⟩, some ⟨ev⟩] S
  intro σ hσ
  obtain ⟨fh, fd, ps, FF, hm, hk, hb⟩ := calX_happen.ex
  obtain ⟨v0, e0, r0⟩ := hσ.at_ 0 _ rfl
  obtain ⟨v1, e1, r1⟩ := hσ.at_ 1 _ rfl
  refine w_cons (w_ps (ps_try_only (c := .ref rC) (Wout := fun _ _ _ _ => False) rfl rfl ⟨rfl, by decide, .inl g_RefusedError⟩ takes0
    (fun W pn xe tk po => pss_one (ps_ret (pe_callS FF hX.room rfl hm hk hb (passAt tk) (pa_cons (pe_var (i := 0) rfl (.inl rfl)) (pa_cons (pe_var (i := 1) rfl (.inl rfl)) pa_nil rfl) rfl))))
    (fun a oe cls d pn hz hv => pss_one (ps_ret pe_non))) ?_)
  refine ⟨v0, e0, v1, e1, S, F, ev, rfl, ⟨v0, [v1], rfl, r0, v1, [], rfl, r1, rfl⟩, ok, hl, evok, fun hok S1 r g rv => ?_, fun hno S1 d g => ?_⟩
  · exact hq S1 r _ g (rep_someF rv) (by unfold movedO; rw [if_pos hok])
  · refine ⟨true, (refOk (c := c)).exm, fun _ a ha => ?_, fun z => by cases z⟩
    exact hq S1 .non none g (show V.non = V.non from rfl) (by unfold movedO; rw [if_neg (by rw [hno]; decide)])
/-- events that can all happen, one behind the other -/
def runOk : Flt → List Ev → Prop
  | _, [] => True
  | F, e :: es => e.Ok ∧ okEv F e = true ∧ runOk (happenF F e) es
def runF (F : Flt) (es : List Ev) : Flt := es.foldl happenF F
section
variable {X : Cx} {e : Expr} {es : List Expr} {Γ : Gm} {S : HS} {pos : Pos}
/-- happen(fleet, event), where it can happen -/
theorem er_happen {k : Nat} {p : Pos} {F : Flt} {ev : Ev} [hX : InC k X] (ha : AR X (e :: es) Γ S (F, ev, ())) (ok : F.Ok) (hl : F.orders.length < 1000) (evok : ev.Ok) (hok : okEv F ev = true) (hj : 13 ≤ k := by decide) (hg : Gl X "happen" := by rfl)
    (he : starEach (e :: es) X.env = (false, eval e X.env) :: starEach es X.env := by rfl) (hpl : (backTo pos (starEach es X.env)).any (·.1) = false := by rfl) :
    ER X (.Call (.Name "happen" p) (e :: es) [] pos) Γ S (⟨happenF F ev⟩ : New S.H Flt) := fun σ hσ S1 g Q kk => by
  obtain ⟨g0, fd, ps, FF, hm, hk, hb⟩ := calX_happen (c := c).ex
  have FF' : FnOk X.prog X.w X.K X.mg X.base (L2.CX X.prog X.w) 13 g0 fd ps SpH := by
    have := fn_in hX FF
    rw [hX.prog, hX.w] at this ⊢
    exact this
  refine w_pe (pe_call FF' (hX.room.mono hj) hg (by rw [hX.mg]; exact hm) (by rw [hX.K]; exact hk) (by rw [hX.K]; exact hb) .nil passL pa_w (by decide) he hpl) (ha σ hσ S1 g _ fun S2 vs g2 r => ?_)
  exact ⟨S2, F, ev, rfl, by rw [List.append_nil]; exact r, ok, hl, evok, fun _ S3 v g3 r3 => kk S3 v (g2.trans g3) (RpN.less (g.trans g2).h r3), fun hno => by rw [hok] at hno; cases hno⟩
end
theorem cal_run : Cal "run" 14 (Spf (fun a : Flt × List Ev × Unit => a.1.Ok ∧ a.1.orders.length + a.2.1.length < 1000 ∧ runOk a.1 a.2.1) fun a => runF a.1 a.2.1) := by
  refine mkCal (d := d_run) i_run sc_run g_run (fun f cdv A outer s S a Q E hp hX hq => ?_) (hb := fun _ _ _ _ _ _ us hl => match us, hl with | [_, _], _ => rfl)
  obtain ⟨F, es, ⟨⟩⟩ := a
  obtain ⟨ok, hl, hr⟩ : F.Ok ∧ F.orders.length + es.length < 1000 ∧ runOk F es := hp
  replace hq : ∀ S1 v y, Grow S S1 → Rp.rep S1.G v y → y = runF F es → Q v S1.H := hq
  have nd := sc_run.nd
  show SB _ _ _ [some ⟨F⟩, some ⟨es⟩, none, none, none] S
  refine s_for PassesOwn.never rfl (it_enum b_enumerate (er_var 1)) (bg_pair rfl (bg_name 2 nd) (bg_name 3 nd)) fun S1 g1 => ?_
  refine ⟨fun rr Γ' S' => ∃ (G : Flt) (l : List Ev), Γ' = [some ⟨G⟩, some ⟨es⟩, none, none, none] ∧ Grow S S' ∧ Same S1.G S'.G ∧ l = rr.map (·.2) ∧ G.Ok ∧ G.orders.length + l.length < 1000 ∧ runOk G l ∧ runF G l = runF F es,
    ⟨F, es, rfl, g1, Same.refl _, ?_, ok, hl, hr, rfl⟩, fun rr Γ' S' ⟨_, _, _, _, h, _⟩ => h, ?_, ?_⟩
  · unfold enumI
    rw [List.map_snd_zip (by rw [rangeI_len]; exact Nat.le_refl _)]
  · rintro pre ⟨n, ev⟩ rr Γ' S' hx ⟨G, l, rfl, gS, s1, rfl, ok, hl, hr, hf⟩ S2 g2
    obtain ⟨evok, hok, hr2⟩ := (show ev.Ok ∧ okEv G ev = true ∧ runOk (happenF G ev) (rr.map fun q : Int × Ev => q.2) from hr)
    have hl2 : G.orders.length + ((rr.map fun q : Int × Ev => q.2).length + 1) < 1000 := hl
    have nx := happen_ok ok (by omega) hok
    refine s_tryThru ?_
    refine s_set (X := Cx.nox _) (x := happenF G ev) 0 nd (ER.old (H0 := S2.H) (er_happen (ar_cons (er_var 0) (ar_cons (er_var 3) ar_nil)) ok (by omega) evok hok)) fun S3 g3 => s_end (s_next (.keep (.keep (.drop (.drop (.drop .nil))))) ?_)
    exact ⟨happenF G ev, rr.map (fun q : Int × Ev => q.2), rfl, (gS.trans g2).trans g3, s1.trans (g2.trans g3).g, rfl, nx.ok, by have := nx.no; omega, hr2, hf⟩
  · rintro Γ' S' ⟨G, l, rfl, gS, s1, rfl, ok, hl, hr, hf⟩
    exact s_ret (er_var 0) fun S3 v g3 rv => hq S3 v _ (gS.trans g3) rv hf
end
end Fl

set_option Elab.async false
set_option linter.all false
set_option maxRecDepth 100000
set_option maxHeartbeats 4000000
namespace Fl
open PySem PySem.Spec PyProof.Rows L2
/-! ### rules: a list's index of a text, a text times a number -/
theorem strsAre_of : ∀ {ys : List Str} {its : List Value}, Vals (ys.map V.str) its → StrsAre its ys
  | [], _, h => by cases h; exact .nil
  | y :: r, _, h => by
    cases h with
    | cons a b =>
      obtain ⟨t, rfl⟩ := a
      exact .cons y t (strsAre_of b)
theorem mt_lindex {X : Cx} : MtR X "list.index" (fun x xs H Q => ∃ (l : Addr) (ys : List Str) (k : Str), x = .ref l ∧ xs = [.str k] ∧ SqL X.K H l (ys.map V.str) ∧ k ∈ ys ∧ ys.length ≤ sizeLine ∧ Q (.int ((ys.idxOf k : Nat) : Int)) H) := by
  intro pins s σ H x xs v us Q I rx rs h
  obtain ⟨l, ys, k, e1, e2, hq, hk, hz, q⟩ := h
  subst e1
  subst e2
  cases rx
  cases rs with
  | cons r1 rs =>
    cases rs
    obtain ⟨t, e⟩ := r1
    subst e
    obtain ⟨its, rv, pl, _⟩ := I.list hq
    exact SeqAt.list_index_strs pl.isList (strsAre_of rv) hz hk ⟨.int ((ys.idxOf k : Nat) : Int), H, I.tok _, ⟨_, rfl⟩, q⟩
theorem op_smul {X : Cx} : OpR X (binaryOp .Mult) (fun x y H Q => ∃ a n, x = .str a ∧ y = .int n ∧ MulOk a n ∧ Q (.str (Txt.mul a n)) H) := by
  intro pins s σ H x y v u Q I rx ry h
  obtain ⟨a, n, rfl, rfl, hm, q⟩ := h
  obtain ⟨t, rfl⟩ := rx
  obtain ⟨t', rfl⟩ := ry
  exact PySem.SB.mul hm fun t2 k => ⟨.str (Txt.mul a n), H, I.tok k, ⟨t2, rfl⟩, q⟩
section
variable {X : Cx} {a b o e : Expr} {Γ : Gm} {S : HS} {pos apos : Pos} {s k : Str} {ys : List Str} {n : Int}
theorem er_smul (ha : ER X a Γ S s) (hb : ER X b Γ S n) (h : MulOk s n) : ER X (.BinOp a .Mult b pos) Γ S (Txt.mul s n) :=
  er_op op_smul ha hb fun S2 u w Q ru rb k => ⟨s, n, ru, rb, h, k S2 _ (.refl _) rfl⟩
theorem er_lindex (ho : ER X o Γ S ys) (he : ER X e Γ S k) (hk : k ∈ ys) (hz : ys.length ≤ 1000) (hbase : attributeBase o "index" X.env (eval o X.env) = eval o X.env := by rfl)
    (hfew : ((backTo pos (starEach [e] X.env)).all (fun x => !x.1) && (backToKw pos (keywordEach [] X.env)).all (fun x => x.1.isSome) && decide (([e] : List Expr).length + ([] : List Keyword).length + (if ([] : List Keyword).isEmpty then 0 else 1) < 30)) = true := by rfl)
    (hline : (apos.endLine == pos.line) = true := by rfl) (hst : starEach [e] X.env = [(false, eval e X.env)] := by rfl) : ER X (.Call (.Attribute o "index" apos) [e] [] pos) Γ S ((ys.idxOf k : Nat) : Int) := fun σ hσ S1 g Q kk =>
  w_pe (pe_bm PySem.F.plainAttrs_list PySem.F.slot_list_index PySem.F.type_list_index mt_lindex pe_w (pa_cons pe_w pa_nil hst) hbase hfew hline hst) (ho σ hσ S1 g _ fun S2 v g2 ⟨q, vs, e1, e2, r⟩ => by
    have e3 := r.str
    subst e1 e3
    exact ⟨.inl ⟨rfl, _, SqL.of (S2.le _ _ e2)⟩, he σ hσ S2 (g.trans g2) _ fun S3 w g3 rw' => ⟨q, ys, k, rfl, by rw [show w = V.str k from rw'], SqL.of (S3.le _ _ (g3.g _ _ e2)), hk, Nat.le_trans hz (by decide), kk S3 _ (g2.trans g3) rfl⟩⟩)
end
/-! ### renaming of stations -/
def lets3 : List Str := ["A", "B", "C"]
def subsL : List (List Str) := [[], ["A"], ["B"], ["C"], ["A", "B"], ["A", "C"], ["B", "C"], ["A", "B", "C"]]
def row4 : Str := "ABCD"
def renF (ls : List Str) (t : Str) : Str := if Txt.upper t ∈ ls then (if Txt.islower t = true then Txt.lower (chAt row4 ((ls.idxOf (Txt.upper t) : Nat) : Int)) else chAt row4 ((ls.idxOf (Txt.upper t) : Nat) : Int)) else t
def renB (ls : List Str) (t : Str) : Bool := decide (renF ls t ∈ tiles8) && (decide (doorT (renF ls t) = doorT t) && ((if Txt.upper t ∈ ls then decide (stationOf (renF ls t) = some ((ls.idxOf (Txt.upper t) : Nat) : Int)) else decide (renF ls t = t)) && (!(stationOf t).isSome || decide (Txt.upper t ∈ lets3))))
def subB (ls : List Str) : Bool := decide (ls.length ≤ 3) && (List.range ls.length).all fun i => decide (ls.idxOf (ls.getD i "") = i)
theorem ren_all : subsL.all (fun ls => subB ls && tiles8.all (renB ls)) = true := by decide +kernel
theorem subs_filter (p : Str → Bool) : lets3.filter p ∈ subsL := by
  unfold lets3
  cases h1 : p "A" <;> cases h2 : p "B" <;> cases h3 : p "C" <;> simp only [List.filter, h1, h2, h3] <;> decide +kernel
structure RenGood (ls : List Str) (t : Str) : Prop where
  tl : renF ls t ∈ tiles8
  dr : doorT (renF ls t) = doorT t
  yes : Txt.upper t ∈ ls → stationOf (renF ls t) = some ((ls.idxOf (Txt.upper t) : Nat) : Int)
  no : ¬ Txt.upper t ∈ ls → renF ls t = t
  st : (stationOf t).isSome = true → Txt.upper t ∈ lets3
theorem ren_good {ls : List Str} {t : Str} (hl : ls ∈ subsL) (ht : t ∈ tiles8) : RenGood ls t := by
  have h := List.all_eq_true.mp (He.ba (List.all_eq_true.mp ren_all ls hl)).2 t ht
  unfold renB at h
  obtain ⟨h1, h⟩ := He.ba h
  obtain ⟨h2, h⟩ := He.ba h
  obtain ⟨h3, h4⟩ := He.ba h
  refine ⟨of_decide_eq_true h1, of_decide_eq_true h2, fun z => ?_, fun z => ?_, fun z => ?_⟩
  · rw [if_pos z] at h3
    exact of_decide_eq_true h3
  · rw [if_neg z] at h3
    exact of_decide_eq_true h3
  · rw [z] at h4
    exact of_decide_eq_true h4
theorem sub_len {ls : List Str} (hl : ls ∈ subsL) : ls.length ≤ 3 := of_decide_eq_true (He.ba (He.ba (List.all_eq_true.mp ren_all ls hl)).1).1
theorem sub_idx {ls : List Str} (hl : ls ∈ subsL) {i : Nat} (hi : i < ls.length) : ls.idxOf (ls.getD i "") = i :=
  of_decide_eq_true (List.all_eq_true.mp (He.ba (He.ba (List.all_eq_true.mp ren_all ls hl)).1).2 i (List.mem_range.mpr hi))
/-! ### the sign of a letter in upper text -/
def sgn (l : Str) : Nat := (TL.tl l).headD 0
theorem lets_of {l : Str} (h : l ∈ lets3) : l = ofC (sgn l) := by
  revert l
  decide +kernel
def upB (t : Str) : Bool := decide (TL.tl t = [sgn t] ∧ sgn t < 128 ∧ Txt.upper t = ofC (up1 (sgn t)))
theorem up_all : tiles8.all upB = true := by decide +kernel
theorem up_tile {t : Str} (h : t ∈ tiles8) : TL.tl t = [sgn t] ∧ sgn t < 128 ∧ Txt.upper t = ofC (up1 (sgn t)) := of_decide_eq_true (List.all_eq_true.mp up_all t h)
theorem ofC_inj {a b : Nat} (h : ofC a = ofC b) : a = b := by
  have := congrArg sgn h
  exact this
theorem in_upper {ts : List Str} (ht : ∀ t ∈ ts, t ∈ tiles8) {l : Str} (hl : l ∈ lets3) : sgn l ∈ (Txt.upper (rowS ts)).cps.toList ↔ ∃ t ∈ ts, Txt.upper t = l := by
  have tl : (rowS ts).cps.toList = (ts.map TL.tl).flatten := tl_row ts
  have mem : ∀ c, c ∈ (rowS ts).cps.toList ↔ ∃ t ∈ ts, c = sgn t := fun c => by
    rw [tl, List.mem_flatten]
    constructor
    · rintro ⟨w, hw, hc⟩
      obtain ⟨t, h1, rfl⟩ := List.mem_map.mp hw
      rw [(up_tile (ht t h1)).1] at hc
      exact ⟨t, h1, List.mem_singleton.mp hc⟩
    · rintro ⟨t, h1, rfl⟩
      exact ⟨TL.tl t, List.mem_map.mpr ⟨t, h1, rfl⟩, by rw [(up_tile (ht t h1)).1]; exact List.mem_singleton.mpr rfl⟩
  rw [PyProof.Rows.upper_ascii (fun c hc => by
    obtain ⟨t, h1, rfl⟩ := (mem c).mp hc
    exact (up_tile (ht t h1)).2.1)]
  rw [show (⟨(rowS ts).cps.map up1⟩ : Str).cps.toList = (rowS ts).cps.toList.map up1 from Array.toList_map ..]
  rw [List.mem_map]
  constructor
  · rintro ⟨c, hc, e⟩
    obtain ⟨t, h1, rfl⟩ := (mem c).mp hc
    exact ⟨t, h1, by rw [(up_tile (ht t h1)).2.2, e]; exact (lets_of hl).symm⟩
  · rintro ⟨t, h1, e⟩
    refine ⟨sgn t, (mem _).mpr ⟨t, h1, rfl⟩, ?_⟩
    rw [(up_tile (ht t h1)).2.2, lets_of hl] at e
    exact ofC_inj e
section
variable [c : Ctx]
theorem cal_law_renamed : Cal "_law_renamed" 1 (Spf (fun a : Str × List Str × Unit => a.1 ∈ tiles8 ∧ a.2.1 ∈ subsL) fun a => renF a.2.1 a.1) := by
  refine mkCal (d := d_law_renamed) i_law_renamed sc_law_renamed g_law_renamed (fun f cdv A outer s S a Q E hp hX hq => ?_) (hb := fun _ _ _ _ _ _ us hl => match us, hl with | [_, _], _ => rfl)
  obtain ⟨t, ls, ⟨⟩⟩ := a
  obtain ⟨ht, hl⟩ : t ∈ tiles8 ∧ ls ∈ subsL := hp
  replace hq : ∀ S1 u z, Grow S S1 → Rp.rep S1.G u z → z = renF ls t → Q u S1.H := hq
  have nd := sc_law_renamed.nd
  have tlen : t.length ≤ 5592405 := by
    obtain ⟨ch, rfl⟩ := tile_one ht
    show 1 ≤ 5592405
    decide
  show SB _ _ _ [some ⟨t⟩, some ⟨ls⟩, none] S
  refine s_if (tr_cmp (cv_niLS (er_upper (er_var 0) tlen) (er_var 1))) (fun tt S1 g1 => ?_) (fun tt S1 g1 => s_end ?_)
  · refine s_ret (er_var 0) fun S2 u g2 rv => hq S2 u _ (g1.trans g2) rv ?_
    have hn : ¬ Txt.upper t ∈ ls := of_decide_eq_false (notT tt)
    unfold renF
    rw [if_neg hn]
  have hy : Txt.upper t ∈ ls := by
    have : decide (Txt.upper t ∈ ls) = true := by
      cases h : decide (Txt.upper t ∈ ls) with
      | true => rfl
      | false => rw [h] at tt; cases tt
    exact of_decide_eq_true this
  have hi := List.idxOf_lt_length_of_mem hy
  have h3 := sub_len hl
  have hrow : row4.cps.toList.length = 4 := by decide +kernel
  refine s_set (x := chAt row4 ((ls.idxOf (Txt.upper t) : Nat) : Int)) 2 nd (er_ixS (s := row4) er_str (er_lindex (er_var 1) (er_upper (er_var 0) tlen) hy (by omega)) (by decide +kernel) (by omega) (chAt_get (by omega) (by rw [hrow]; omega))) fun S2 g2 => ?_
  refine s_if (tr_bool (er_islower (er_var 0))) (fun t3 S3 g3 => ?_) (fun t3 S3 g3 => s_end ?_)
  · refine s_ret (er_lower (er_var 2) (by show 1 ≤ 5592405; decide)) fun S4 u g4 rv => hq S4 u _ (((g1.trans g2).trans g3).trans g4) rv ?_
    unfold renF
    rw [if_pos hy, if_pos t3]
  · refine s_ret (er_var 2) fun S4 u g4 rv => hq S4 u _ (((g1.trans g2).trans g3).trans g4) rv ?_
    unfold renF
    rw [if_pos hy, if_neg (by rw [t3]; decide)]
end
end Fl

set_option Elab.async false
set_option linter.all false
set_option maxRecDepth 100000
set_option maxHeartbeats 4000000
namespace Fl
open PySem PySem.Spec PyProof.Rows L2
/-! ### mending -/
def hash : Str := "#"
instance decMulOk {s : Str} {n : Int} : Decidable (MulOk s n) := by
  unfold MulOk
  infer_instance
theorem mul_all : (List.range 37).all (fun m => decide (MulOk hash ((m : Nat) : Int)) && (decide (m = 0) || decide (Txt.mul hash ((m : Nat) : Int) = rowS (List.replicate m hash)))) = true := by decide +kernel
theorem hash_ok {m : Nat} (h : m ≤ 36) : MulOk hash (m : Int) := of_decide_eq_true (He.ba (List.all_eq_true.mp mul_all m (List.mem_range.mpr (by omega)))).1
theorem hash_mul {m : Nat} (h : m ≤ 36) (h0 : m ≠ 0) : Txt.mul hash (m : Int) = rowS (List.replicate m hash) := by
  have := (He.ba (List.all_eq_true.mp mul_all m (List.mem_range.mpr (by omega)))).2
  rw [decide_eq_false h0] at this
  exact of_decide_eq_true this
theorem not_walls {ts : List Str} (h36 : ts.length ≤ 36) (h0 : ts ≠ []) (h : ¬ rowS ts = Txt.mul hash (ts.length : Int)) : ∃ i : Nat, ∃ t, ts[i]? = some t ∧ ¬ t = "#" := by
  rcases Classical.em (∃ t ∈ ts, ¬ t = "#") with ⟨t, ht, hn⟩ | hall
  · obtain ⟨i, hi, e⟩ := List.mem_iff_getElem.mp ht
    exact ⟨i, t, by rw [List.getElem?_eq_getElem hi, e], hn⟩
  · exfalso
    apply h
    have he : ts = List.replicate ts.length hash := List.eq_replicate_iff.mpr ⟨rfl, fun t ht => by
      rcases Classical.em (t = "#") with e | e
      · exact e
      · exact absurd ⟨t, ht, e⟩ hall⟩
    rw [hash_mul h36 (fun z => h0 (List.eq_nil_of_length_eq_zero z)), ← he]
def doorP (t : Str) : Bool := decide (t = "+") || Txt.islower t
def lowB (t : Str) : Bool := (!doorP t || doorT t) && (decide (t = "#") || (doorP t || (decide (t = ".") || (decide (Txt.lower t ∈ tiles8) && doorT (Txt.lower t)))))
theorem low_all : tiles8.all lowB = true := by decide +kernel
theorem low_door {t : Str} (h : t ∈ tiles8) (hd : doorP t = true) : doorT t = true := by
  have := (He.ba (List.all_eq_true.mp low_all t h)).1
  rw [hd] at this
  exact this
theorem low_low {t : Str} (h : t ∈ tiles8) (h1 : ¬ t = "#") (h2 : doorP t = false) (h3 : ¬ t = ".") : Txt.lower t ∈ tiles8 ∧ doorT (Txt.lower t) = true := by
  have := (He.ba (List.all_eq_true.mp low_all t h)).2
  rw [decide_eq_false h1, h2, decide_eq_false h3] at this
  obtain ⟨a, b⟩ := He.ba (show (decide (Txt.lower t ∈ tiles8) && doorT (Txt.lower t)) = true from this)
  exact ⟨of_decide_eq_true a, b⟩
structure Mended (n : Nat) (y : List Str) : Prop where
  len : y.length = n
  t : ∀ t ∈ y, t ∈ tiles8
  d : ∃ t ∈ y, doorT t = true
  s : ∀ t ∈ y, ∀ n, stationOf t = some n → ∀ k, 0 ≤ k → k < n → ∃ t2 ∈ y, stationOf t2 = some k
def letsOf (ts : List Str) : List Str := lets3.filter fun l => decide (sgn l ∈ (Txt.upper (rowS ts)).cps.toList)
theorem mem_lets {ts : List Str} (ht : ∀ t ∈ ts, t ∈ tiles8) {l : Str} : l ∈ letsOf ts ↔ l ∈ lets3 ∧ ∃ t ∈ ts, Txt.upper t = l := by
  unfold letsOf
  rw [List.mem_filter]
  constructor
  · rintro ⟨h1, h2⟩
    exact ⟨h1, (in_upper ht h1).mp (of_decide_eq_true h2)⟩
  · rintro ⟨h1, h2⟩
    exact ⟨h1, decide_eq_true ((in_upper ht h1).mpr h2)⟩
theorem mended_ok {ts : List Str} (ht : ∀ t ∈ ts, t ∈ tiles8) (hd : ∃ t ∈ ts, doorT t = true) : Mended ts.length (ts.map (renF (letsOf ts))) := by
  have hl : letsOf ts ∈ subsL := subs_filter _
  refine ⟨List.length_map _, fun t h => ?_, ?_, fun t h n hn k k0 k1 => ?_⟩
  · obtain ⟨t0, h0, rfl⟩ := List.mem_map.mp h
    exact (ren_good hl (ht t0 h0)).tl
  · obtain ⟨t0, h0, hd⟩ := hd
    exact ⟨_, List.mem_map.mpr ⟨t0, h0, rfl⟩, by rw [(ren_good hl (ht t0 h0)).dr]; exact hd⟩
  · obtain ⟨t0, h0, rfl⟩ := List.mem_map.mp h
    have rg := ren_good hl (ht t0 h0)
    by_cases hu : Txt.upper t0 ∈ letsOf ts
    · rw [rg.yes hu] at hn
      have hn := Option.some.inj hn
      have hi := List.idxOf_lt_length_of_mem hu
      have hk : k.toNat < (letsOf ts).length := by omega
      have hmem : (letsOf ts).getD k.toNat "" ∈ letsOf ts := by
        rw [List.getD_eq_getElem?_getD, List.getElem?_eq_getElem hk]
        exact List.getElem_mem hk
      obtain ⟨_, t2, h2, e2⟩ := (mem_lets ht).mp hmem
      refine ⟨_, List.mem_map.mpr ⟨t2, h2, rfl⟩, ?_⟩
      rw [(ren_good hl (ht t2 h2)).yes (by rw [e2]; exact hmem), e2, sub_idx hl hk]
      congr 1
      omega
    · rw [rg.no hu] at hn
      exact absurd ((mem_lets ht).mpr ⟨rg.st (by rw [hn]; rfl), t0, h0, rfl⟩) hu
section
variable {α : Type} [Rp α] {X : Cx} {a b d : Expr} {Γ : Gm} {S : HS} {pos : Pos} {x y z : α}
theorem er_lst3 (h1 : ER X a Γ S x) (h2 : ER X b Γ S y) (h3 : ER X d Γ S z) (s1 : starEach [a, b, d] X.env = (false, eval a X.env) :: starEach [b, d] X.env := by rfl) (s2 : starEach [b, d] X.env = (false, eval b X.env) :: starEach [d] X.env := by rfl) (s3 : starEach [d] X.env = [(false, eval d X.env)] := by rfl) :
    ER X (.List [a, b, d] pos) Γ S [x, y, z] := fun σ hσ S1 g Q k => w_pe (pe_lst (pa_cons pe_w (pa_cons pe_w (pa_cons pe_w pa_nil s3) s2) s1)) (h1 σ hσ S1 g _ fun S2 u g2 ru => h2 σ hσ S2 (g.trans g2) _ fun S3 v g3 rv => h3 σ hσ S3 ((g.trans g2).trans g3) _ fun S4 q g4 rq =>
    ⟨(by show 3 ≤ sizeLine; decide), fun p hp => k (S4.new p _ hp) _ (((g2.trans g3).trans g4).trans (.new S4 p _ hp)) ⟨p, _, rfl, HS.new_at, .cons (Rp.mono ((g3.trans g4).trans (.new S4 p _ hp)).g ru) (.cons (Rp.mono (g4.trans (.new S4 p _ hp)).g rv) (.cons (Rp.mono (Grow.new S4 p _ hp).g rq) .nil))⟩⟩)
end
theorem row_sum {ts : List Str} (ht : ∀ t ∈ ts, t ∈ tiles8) : (ts.map (·.length)).sum = ts.length := by
  induction ts with
  | nil => rfl
  | cons t r ih =>
    rw [List.map_cons, List.sum_cons, ih fun x hx => ht x (List.mem_cons_of_mem _ hx), List.length_cons]
    obtain ⟨ch, rfl⟩ := tile_one (ht t List.mem_cons_self)
    show 1 + r.length = r.length + 1
    omega
section
variable [c : Ctx]
theorem cal_law_mended : Cal "_law_mended" 2 (Spc (fun a : List Str × Int × Unit => (∀ t ∈ a.1, t ∈ tiles8) ∧ a.1 ≠ [] ∧ a.1.length ≤ 36) fun a (y : List Str) => Mended a.1.length y) := by
  refine mkCal (d := d_law_mended) i_law_mended sc_law_mended g_law_mended (fun f cdv A outer s S a Q E hp hX hq => ?_) (hb := fun _ _ _ _ _ _ us hl => match us, hl with | [_, _], _ => rfl)
  obtain ⟨ts0, at0, ⟨⟩⟩ := a
  obtain ⟨ht0, hn0, h36⟩ : (∀ t ∈ ts0, t ∈ tiles8) ∧ ts0 ≠ [] ∧ ts0.length ≤ 36 := hp
  replace hq : ∀ S1 u (z : List Str), Grow S S1 → Rp.rep S1.G u z → Mended ts0.length z → Q u S1.H := hq
  have nd := sc_law_mended.nd
  have hpos : 0 < ts0.length := List.length_pos_iff.mpr hn0
  show SB _ _ _ [some ⟨ts0⟩, some ⟨at0⟩, none, none, none, none, none, none, none] S
  refine s_setN 0 nd (en_list b_list (er_var 0)) fun S1 p g1 p0 m1 => ?_
  -- behind the doors
  have fin2 : ∀ (S' : HS) (ts : List Str), Grow S S' → ML S' p ts → ts.length = ts0.length → (∀ t ∈ ts, t ∈ tiles8) → (∃ t ∈ ts, doorT t = true) →
      SB (bx d_law_mended N_law_mended f cdv A outer s S.H E) ((defBody s_law_mended).drop 5) { nx := fun _ H' => Q .non H', rt := Q } [some ⟨(⟨p⟩ : Adr)⟩, some ⟨at0⟩, none, none, none, none, none, none, none] S' := by
    intro S' ts gg m hl ht hd
    have rl : (rowS ts).length = ts.length := row_len (tile_ones ht)
    refine SB.fixM 0 gg p0 m fun S2 e2 g2 s2 hn2 => ?_
    refine s_set (x := Txt.upper (rowS ts)) 5 nd (er_upper (er_join (ys := ts) er_str (er_var 0) (by rw [row_sum ht]; show ts.length + ts.length * 0 ≤ _; omega)) (by show (rowS ts).length ≤ _; omega)) fun S3 g3 => ?_
    refine s_setN 7 nd (en_lcI (xs := lets3) (h := fun l : Str => l) 6 (fun l => decide (sgn l ∈ (Txt.upper (rowS ts)).cps.toList)) rfl nd (it_list (er_lst3 er_str er_str er_str)) (by decide) (blkOk_by (N := N_law_mended) (sc := defScope s_law_mended) (by decide +kernel)) (fun x hx S4 g4 X' hb => ?_) (fun x hx _ S4 g4 X' hb => ?_)) (fun S4 q4 g4 hq4 m4 => ?_)
    · obtain ⟨_, _, _, _, _, rfl⟩ := hb
      exact tr_cmp (cv_inC (ch := sgn x) (t := Txt.upper (rowS ts)) (er_eq (er_var 6) (lets_of hx)) (er_var 5))
    · obtain ⟨_, _, _, _, _, rfl⟩ := hb
      exact er_var 6
    rw [List.map_id'] at m4
    refine SB.fixM 7 g4 hq4 m4 fun S5 e5 g5 s5 hn5 => ?_
    refine s_ret ((en_lc (xs := ts) (h := renF (letsOf ts)) 8 rfl nd (it_list (er_var 0)) (by omega) (blkOk_by (N := N_law_mended) (sc := defScope s_law_mended) (by decide +kernel)) (fun x hx S6 g6 X' hb => ?_)).er) fun S6 v g6 rv => hq S6 v _ (((g2.trans g3).trans g5).trans g6) rv (by rw [← hl]; exact mended_ok ht hd)
    obtain ⟨_, _, _, _, _, rfl⟩ := hb
    exact er_call cal_law_renamed (u := (x, letsOf ts, ())) (ar_cons (er_var 8) (ar_cons (er_var 7) ar_nil)) ⟨ht x hx, (show letsOf ts ∈ subsL from subs_filter _)⟩
  -- behind the walls
  have fin1 : ∀ (S' : HS) (ts : List Str), Grow S S' → ML S' p ts → ts.length = ts0.length → (∀ t ∈ ts, t ∈ tiles8) → (∃ i : Nat, ∃ t, ts[i]? = some t ∧ ¬ t = "#") →
      SB (bx d_law_mended N_law_mended f cdv A outer s S.H E) ((defBody s_law_mended).drop 2) { nx := fun _ H' => Q .non H', rt := Q } [some ⟨(⟨p⟩ : Adr)⟩, some ⟨at0⟩, none, none, none, none, none, none, none] S' := by
    intro S' ts gg m hl ht hw
    have get : ∀ x : Int, x ∈ rangeI 0 ts.length → 0 ≤ x ∧ ts[x.toNat]? = some (tileAt ts x) := fun x hx => by
      have hr := mem_rangeI.mp hx
      exact ⟨hr.1, tileAt_get hr.1 (by omega)⟩
    refine s_setLcI (xs := rangeI 0 ts.length) (h := fun x : Int => x) 3 2 (fun x => !decide (tileAt ts x = "#")) rfl nd (it_rangeN b_range (er_lenM b_len m (er_var 0)) (by omega)) (by rw [rangeI_len]; omega) (blkOk_by (N := N_law_mended) (sc := defScope s_law_mended) (by decide +kernel)) (fun x hx S4 g4 X' hb => ?_) (fun x hx _ S4 g4 X' hb => ?_) (fun S2 q2 g2 hq2 m2 => ?_) (sw_true rfl rfl rfl (by decide +kernel))
    · obtain ⟨_, _, _, _, _, rfl⟩ := hb
      exact tr_cmp (cv_neS (er_ixM (m.up g4) (er_var 0) (er_var 2) (get x hx).1 (get x hx).2) er_str)
    · obtain ⟨_, _, _, _, _, rfl⟩ := hb
      exact er_var 2
    rw [List.map_id'] at m2
    obtain ⟨cs, hcs⟩ : ∃ cs, cs = (rangeI 0 ts.length).filter fun x => !decide (tileAt ts x = "#") := ⟨_, rfl⟩
    rw [← hcs] at m2
    have hcs_mem : ∀ x ∈ cs, x ∈ rangeI 0 ts.length ∧ ¬ tileAt ts x = "#" := fun x hx => by
      rw [hcs] at hx
      obtain ⟨h1, h2⟩ := List.mem_filter.mp hx
      exact ⟨h1, of_decide_eq_false (notT h2)⟩
    have hcs_ne : cs ≠ [] := by
      obtain ⟨i, t, hi, hn⟩ := hw
      have hil := (List.getElem?_eq_some_iff.mp hi).1
      have hmem : (i : Int) ∈ cs := by
        rw [hcs]
        refine List.mem_filter.mpr ⟨mem_rangeI.mpr ⟨by omega, by omega⟩, ?_⟩
        have e : tileAt ts (i : Int) = t := by
          unfold tileAt
          rw [Int.toNat_natCast, List.getD_eq_getElem?_getD, hi]
          rfl
        rw [e, decide_eq_false hn]
        rfl
      intro z
      rw [z] at hmem
      cases hmem
    have hcs_len : cs.length ≤ 36 := by
      have := List.length_filter_le (fun x => !decide (tileAt ts x = "#")) (rangeI 0 ts.length)
      rw [rangeI_len, ← hcs] at this
      omega
    have hcs_pos : 0 < cs.length := List.length_pos_iff.mpr hcs_ne
    refine SB.fixM 3 g2 hq2 m2 fun S3 e3 g3 s3 hn3 => ?_
    have mA := m.up g3
    refine s_setLcI (xs := cs) (h := fun x : Int => x) 4 2 (fun x => doorP (tileAt ts x)) rfl nd (it_list (er_var 3)) (by omega) (blkOk_by (N := N_law_mended) (sc := defScope s_law_mended) (by decide +kernel)) (fun x hx S4 g4 X' hb => ?_) (fun x hx _ S4 g4 X' hb => ?_) (fun S4 q4 g4 hq4 m4 => ?_) (sw_true rfl rfl rfl (by decide +kernel))
    · obtain ⟨_, _, _, _, _, rfl⟩ := hb
      have gx := get x (hcs_mem x hx).1
      exact tr_or (tr_cmp (cv_eqS (er_ixM (mA.up g4) (er_var 0) (er_var 2) gx.1 gx.2) er_str)) fun _ => tr_bool (er_islower (er_ixM (mA.up g4) (er_var 0) (er_var 2) gx.1 gx.2))
    · obtain ⟨_, _, _, _, _, rfl⟩ := hb
      exact er_var 2
    rw [List.map_id'] at m4
    refine SB.fixM 4 g4 hq4 m4 fun S5 e5 g5 s5 hn5 => ?_
    have mB := mA.up g5
    have gB := (gg.trans g3).trans g5
    refine s_if (tr_not (tr_list (er_var 4))) (fun t S6 g6 => ?_) (fun t S6 g6 => s_end ?_)
    · have hno : ∀ x ∈ cs, doorP (tileAt ts x) = false := fun x hx => by
        have he : cs.filter (fun x => doorP (tileAt ts x)) = [] := by
          have t : (!(!(cs.filter fun x => doorP (tileAt ts x)).isEmpty)) = true := t
          rw [Bool.not_not] at t
          exact List.isEmpty_iff.mp t
        cases e : doorP (tileAt ts x) with
        | false => rfl
        | true =>
          have : x ∈ cs.filter (fun x => doorP (tileAt ts x)) := List.mem_filter.mpr ⟨hx, e⟩
          rw [he] at this
          cases this
      have hm0 : 0 ≤ at0 % (cs.length : Int) := Int.emod_nonneg _ (by omega)
      have hm1 : at0 % (cs.length : Int) < cs.length := Int.emod_lt_of_pos _ (by omega)
      obtain ⟨kk, hk⟩ : ∃ kk, cs[(at0 % (cs.length : Int)).toNat]? = some kk := ⟨_, List.getElem?_eq_getElem (by omega)⟩
      have hkm := List.mem_of_getElem? hk
      obtain ⟨hkr, hkw⟩ := hcs_mem kk hkm
      have gk := get kk hkr
      have hk1 : kk < (ts.length : Int) := by
        have := (mem_rangeI.mp hkr).2
        omega
      have ht8 := ht _ (List.mem_of_getElem? gk.2)
      refine s_set (x := kk) 2 nd (er_ix (er_var 3) (er_mod (er_intI b_int (er_var 1)) (er_len b_len (er_var 3)) (by omega)) hm0 hk) fun S7 g7 => ?_
      have mC := (mB.up g6).up g7
      have gC := (gB.trans g6).trans g7
      have fin3 : ∀ (S9 : HS) (t' : Str), Upd S7 p S9 ∨ (∃ S8, Grow S7 S8 ∧ Upd S8 p S9) → ML S9 p (ts.set kk.toNat t') → t' ∈ tiles8 → doorT t' = true →
          SB (bx d_law_mended N_law_mended f cdv A outer s S.H E) ((defBody s_law_mended).drop 5) { nx := fun _ H' => Q .non H', rt := Q } [some ⟨(⟨p⟩ : Adr)⟩, some ⟨at0⟩, none, none, none, none, none, none, none] S9 := by
        intro S9 t' hu m9 h8 hd
        have gS : Grow S S9 := by
          rcases hu with u | ⟨S8, g8, u⟩
          · exact gC.upd p0 u
          · exact (gC.trans g8).upd p0 u
        refine fin2 S9 _ gS m9 (by rw [List.length_set, hl]) (fun t ht' => ?_) ⟨t', ?_, hd⟩
        · rcases List.mem_or_eq_of_mem_set ht' with h | h
          · exact ht t h
          · rw [h]; exact h8
        · refine List.mem_of_getElem? (i := kk.toNat) ?_
          rw [List.getElem?_set_self (by omega)]
      refine s_if (tr_cmp (cv_eqS (er_ixM mC (er_var 0) (er_var 2) gk.1 gk.2) er_str)) (fun t2 S8 g8 => ?_) (fun t2 S8 g8 => ?_)
      · refine s_seti (x := ("+" : Str)) (mC.up g8) er_str (er_var 0) (er_var 2) gk.1 hk1 (fun S9 u9 m9 => s_end (s_end ?_))
        exact SB.wk (.keep (.keep (.drop (.drop (.drop (.keep (.keep (.keep (.keep .nil))))))))) (fin3 S9 "+" (.inr ⟨S8, g8, u9⟩) m9 (by decide +kernel) (by decide +kernel))
      · have hnd : ¬ tileAt ts kk = "." := of_decide_eq_false t2
        obtain ⟨l8, ld⟩ := low_low ht8 hkw (hno kk hkm) hnd
        have tlen : (tileAt ts kk).length ≤ 5592405 := by
          obtain ⟨ch, e⟩ := tile_one ht8
          rw [e]
          show 1 ≤ 5592405
          decide
        refine s_seti (x := Txt.lower (tileAt ts kk)) (mC.up g8) (er_lower (er_ixM (mC.up g8) (er_var 0) (er_var 2) gk.1 gk.2) tlen) (er_var 0) (er_var 2) gk.1 hk1 (fun S9 u9 m9 => s_end (s_end ?_))
        exact SB.wk (.keep (.keep (.drop (.drop (.drop (.keep (.keep (.keep (.keep .nil))))))))) (fin3 S9 _ (.inr ⟨S8, g8, u9⟩) m9 l8 ld)
    · have hne : ∃ x ∈ cs, doorP (tileAt ts x) = true := by
        have t : (!(!(cs.filter fun x => doorP (tileAt ts x)).isEmpty)) = false := t
        rw [Bool.not_not] at t
        obtain ⟨x, hx⟩ := List.exists_mem_of_ne_nil (cs.filter fun x => doorP (tileAt ts x)) (fun z => by rw [z] at t; cases t)
        obtain ⟨h1, h2⟩ := List.mem_filter.mp hx
        exact ⟨x, h1, h2⟩
      obtain ⟨x, hx, hd⟩ := hne
      have gx := get x (hcs_mem x hx).1
      have hmem := List.mem_of_getElem? gx.2
      exact SB.wk (.keep (.keep (.drop (.drop (.drop (.keep (.keep (.keep (.keep .nil))))))))) (fin2 S6 ts (gB.trans g6) (mB.up g6) hl ht ⟨_, hmem, low_door (ht _ hmem) hd⟩)
  refine s_if (tr_cmp (cv_eqS (er_frzL 0 m1 fun T => er_join (ys := ts0) er_str (er_var 0) (by rw [row_sum ht0]; show ts0.length + ts0.length * 0 ≤ _; omega)) (er_smul (s := hash) er_str (er_lenM b_len m1 (er_var 0)) (hash_ok h36)))) (fun t S2 g2 => ?_) (fun t S2 g2 => s_end ?_)
  · refine s_seti (x := (".": Str)) (i := 0) (m1.up g2) er_str (er_var 0) er_int (by decide) (by omega) (fun S3 u3 m3 => s_end ?_)
    refine fin1 S3 _ ((g1.trans g2).upd p0 u3) m3 (List.length_set ..) (fun t ht => ?_) ⟨0, ".", by rw [show (0 : Int).toNat = 0 from rfl, List.getElem?_set_self hpos], by decide⟩
    rcases List.mem_or_eq_of_mem_set ht with h | h
    · exact ht0 t h
    · rw [h]; decide +kernel
  · exact fin1 S2 ts0 (g1.trans g2) (m1.up g2) rfl ht0 (not_walls h36 hn0 (of_decide_eq_false t))
end
end Fl

set_option Elab.async false
set_option linter.all false
set_option maxRecDepth 100000
set_option maxHeartbeats 4000000
namespace Fl
open PySem PySem.Spec PyProof.Rows L2
theorem Upd.upd {S0 S S2 : HS} {p q : Addr} (gg : Upd S0 p S) (hp : S.H p ≠ none) (h0 : S0.H q = none) (u : Upd S q S2) : Upd S0 p S2 :=
  ⟨gg.g.trans u.g, fun r hr o e => u.h r (ne_of_none e h0) o (gg.h r hr o e), fun r h1 h2 => u.n r (fun z => by
    by_cases hrp : r = p
    · subst hrp
      exact hp z
    · cases e : S0.H r with
      | none => exact h1 e
      | some o => rw [gg.h r hrp o e] at z; cases z) (gg.n r h1 h2)⟩
def emptyS : HS := ⟨fun _ => none, fun _ => none, fun _ _ e => e⟩
theorem empty_grow {S : HS} : Grow emptyS S := ⟨(fun _ _ e => by cases e), (fun _ _ e => by cases e), fun _ h _ => absurd rfl h⟩
section
variable {α β γ : Type} [Rp α] [Rp β] [Rp γ] {X : Cx} {e a b : Expr} {es : List Expr} {Γ : Gm} {S : HS} {pos : Pos} {p q : Addr} {B : HS → Prop} {P : α → Prop}
theorem EU.of_er {x : α} (h : ER X e Γ S x) (hu : ∀ S1 S2 : HS, B S1 → Grow S1 S2 → B S2) (hp : ∀ S1, B S1 → S1.H p ≠ none) : EU B X e Γ S p (fun y => y = x) := fun σ hσ S1 g hB Q k => h σ hσ S1 g _ fun S2 v g2 r => k S2 v x (g2.toUpd p) (hu _ _ hB g2) r rfl
/-- p.append(e), where e changes p2 -/
theorem s_appU {xs : List α} {apos pos' : Pos} {D : Ends} {rest : List Stmt} (hB : B S) (hm : ML S q xs) (hne : q ≠ p) (ha : ER X a Γ S (⟨q⟩ : Adr)) (hup : ∀ S1, Grow S S1 → B S1) (he : EU B X e Γ S p P) (hz : xs.length < 100000)
    (k : ∀ (S1 S2 : HS) (y : α), Upd S p S1 → B S1 → Upd S1 q S2 → ML S2 q (xs ++ [y]) → P y → SB X rest D Γ S2)
    (hs : swapsWith (.Call (.Attribute a "append" apos) [e] [] pos) none pos'.line X.env = pure false := by rfl)
    (hbase : attributeBase a "append" X.env (eval a X.env) = eval a X.env := by rfl)
    (hfew : ((backTo pos (starEach [e] X.env)).all (fun x => !x.1) && (backToKw pos (keywordEach [] X.env)).all (fun x => x.1.isSome) && decide (([e] : List Expr).length + ([] : List Keyword).length + (if ([] : List Keyword).isEmpty then 0 else 1) < 30)) = true := by rfl)
    (hline : (apos.endLine == pos.line) = true := by rfl) (hst : starEach [e] X.env = [(false, eval e X.env)] := by rfl) : SB X (.Expr (.Call (.Attribute a "append" apos) [e] [] pos) pos' :: rest) D Γ S := fun σ hσ => by
  refine w_cons (w_ps (ps_expr (pe_bm PySem.F.plainAttrs_list PySem.F.slot_list_append PySem.F.type_list_append mt_append pe_w (pa_cons pe_w pa_nil hst) hbase hfew hline hst) hs) (ha σ hσ S (.refl _) _ fun S1 u g1 ru => ?_))
  obtain ⟨_, vs, h2, r⟩ := hm.up g1
  cases (show u = V.ref q from ru)
  refine ⟨.inl ⟨rfl, vs, SqL.of h2⟩, he σ hσ S1 g1 (hup S1 g1) _ fun S2 w y u2 hB2 rw' hy => ?_⟩
  obtain ⟨n3, vs3, h3, r3⟩ := (hm.up g1).upd u2 hne
  refine ⟨q, vs3, w, rfl, rfl, h3, by rw [r3.len]; exact Nat.lt_of_lt_of_le hz (by decide), ?_⟩
  exact k S2 (S2.add q (.lst (vs3 ++ [w])) n3) y (u2.after g1) hB2 (Upd.add n3) ⟨n3, vs3 ++ [w], upd_same, r3.app (.cons rw' .nil)⟩ hy σ ((hσ.mono g1.g).mono u2.g)
/-- i + e -/
theorem eu_addI {i : Int} {P : Int → Prop} (ha : ER X a Γ S i) (hup : ∀ S1 S2 : HS, B S1 → Grow S1 S2 → B S2) (hth : ∀ S1, B S1 → S1.H p ≠ none) (hb : EU B X b Γ S p P) : EU B X (.BinOp a .Add b pos) Γ S p (fun z => ∃ y, P y ∧ z = i + y) :=
  fun σ hσ S1 g hB Q k => w_pe (pe_op op_add pe_w pe_w) (ha σ hσ S1 g _ fun S2 u g2 ru => hb σ hσ S2 (g.trans g2) (hup _ _ hB g2) _ fun S3 w y u3 hB3 rb hy => ⟨i, y, ru, rb, k S3 _ (i + y) (u3.after g2) hB3 rfl ⟨y, hy, rfl⟩⟩)
section
variable [c : Ctx] {P1 : α → Prop} {pre : α × β × Unit → Prop} {post : α × β × Unit → γ → Prop}
/-- f(e, b), where e changes p -/
theorem eu_call2 {k j : Nat} {nm : Str} {np : Pos} {y : β} [hX : InC k X] (C : Cal nm j (Spc pre post)) (hup : ∀ S1 S2 : HS, B S1 → Grow S1 S2 → B S2) (hth : ∀ S1, B S1 → S1.H p ≠ none) (ha : EU B X a Γ S p P1) (hb : ∀ S1, Upd S p S1 → ER X b Γ S1 y) (hp : ∀ x, P1 x → pre (x, y, ())) (hj : j ≤ k := by decide) (hg : Gl X nm := by rfl) (hdb : (nm == ("__debug__" : Str)) = false := by decide)
    (h1 : starEach [a, b] X.env = (false, eval a X.env) :: starEach [b] X.env := by rfl) (h2 : starEach [b] X.env = (false, eval b X.env) :: starEach [] X.env := by rfl) (hpl : (backTo pos (starEach [b] X.env)).any (·.1) = false := by rfl) :
    EU B X (.Call (.Name nm np) [a, b] [] pos) Γ S p (fun z => ∃ x, P1 x ∧ post (x, y, ()) z) := fun σ hσ S1 g hB Q kk => by
  obtain ⟨f, fd, ps, F, hm, hk, hbd⟩ := C.ex
  refine w_pe (pe_call (fn_in hX F) (hX.room.mono hj) hg (by rw [hX.mg]; exact hm) (by rw [hX.K]; exact hk) (by rw [hX.K]; exact hbd) .nil pass0 (pa_cons pe_w (pa_cons pe_w pa_nil h2) h1) hdb h1 hpl) (ha σ hσ S1 g hB _ fun S2 v x u2 hB2 r hx => ?_)
  refine hb S2 (u2.after g) σ (((hσ.mono g.g).mono u2.g)) S2 (.refl _) _ fun S3 w g3 rw' => ?_
  exact ⟨S3, (x, y, ()), rfl, ⟨v, _, rfl, Rp.mono g3.g r, w, _, rfl, rw', rfl⟩, hp x hx, fun S4 u z g4 r4 p4 => kk S4 u z ((u2.trans (g3.toUpd p) (hth _ hB2)).trans (g4.toUpd p) (hth _ (hup _ _ hB2 g3))) (hup _ _ (hup _ _ hB2 g3) g4) r4 ⟨x, hx, p4⟩⟩
end
section
variable [c : Ctx] {P2 : β → Prop} {pre : α × β × Unit → Prop} {post : α × β × Unit → γ → Prop}
/-- f(a, e), where e changes p -/
theorem eu_call3 {k j : Nat} {nm : Str} {np : Pos} {x : α} [hX : InC k X] (C : Cal nm j (Spc pre post)) (hup : ∀ S1 S2 : HS, B S1 → Grow S1 S2 → B S2) (hth : ∀ S1, B S1 → S1.H p ≠ none) (ha : ER X a Γ S x) (hb : EU B X b Γ S p P2) (hp : ∀ y, P2 y → pre (x, y, ())) (hj : j ≤ k := by decide) (hg : Gl X nm := by rfl) (hdb : (nm == ("__debug__" : Str)) = false := by decide)
    (h1 : starEach [a, b] X.env = (false, eval a X.env) :: starEach [b] X.env := by rfl) (h2 : starEach [b] X.env = (false, eval b X.env) :: starEach [] X.env := by rfl) (hpl : (backTo pos (starEach [b] X.env)).any (·.1) = false := by rfl) :
    EU B X (.Call (.Name nm np) [a, b] [] pos) Γ S p (fun z => ∃ y, P2 y ∧ post (x, y, ()) z) := fun σ hσ S1 g hB Q kk => by
  obtain ⟨f, fd, ps, F, hm, hk, hbd⟩ := C.ex
  refine w_pe (pe_call (fn_in hX F) (hX.room.mono hj) hg (by rw [hX.mg]; exact hm) (by rw [hX.K]; exact hk) (by rw [hX.K]; exact hbd) .nil pass0 (pa_cons pe_w (pa_cons pe_w pa_nil h2) h1) hdb h1 hpl) (ha σ hσ S1 g _ fun S2 v g2 r => ?_)
  refine hb σ hσ S2 (g.trans g2) (hup _ _ hB g2) _ fun S3 w y u3 hB3 rw' hy => ?_
  exact ⟨S3, (x, y, ()), rfl, ⟨v, _, rfl, Rp.mono u3.g r, w, _, rfl, rw', rfl⟩, hp y hy, fun S4 u z g4 r4 p4 => kk S4 u z ((u3.after g2).trans (g4.toUpd p) (hth _ hB3)) (hup _ _ hB3 g4) r4 ⟨y, hy, p4⟩⟩
end
end
/-! ### rows of tiles -/
theorem cut_nat {α : Type} (xs : List α) {a b : Nat} (h : b ≤ xs.length) (hab : a ≤ b) : cutL xs (some (a : Int)) (some (b : Int)) = (xs.drop a).take (b - a) := by
  unfold cutL
  rw [HT.sIx_nat, HT.sIx_nat, Nat.min_eq_left (Nat.le_trans hab h), Nat.min_eq_left h]
def chunk {α : Type} (xs : List α) (m : Nat) (k : Int) : List α := cutL xs (some (k * (m : Int))) (some (k * (m : Int) + (m : Int)))
theorem chunk_nat {α : Type} {xs : List α} {m n k : Nat} (h : xs.length = n * m) (hk : k < n) : chunk xs m (k : Int) = (xs.drop (k * m)).take m := by
  have h1 : k * m + m ≤ xs.length := by
    rw [h, ← Nat.succ_mul]
    exact Nat.mul_le_mul_right m hk
  unfold chunk
  have e1 : ((k : Nat) : Int) * (m : Int) = ((k * m : Nat) : Int) := by push_cast; rfl
  rw [e1, show ((k * m : Nat) : Int) + (m : Int) = ((k * m + m : Nat) : Int) by push_cast; rfl, cut_nat xs h1 (by omega), Nat.add_sub_cancel_left]
theorem chunk_len {α : Type} {xs : List α} {m n k : Nat} (h : xs.length = n * m) (hk : k < n) : (chunk xs m (k : Int)).length = m := by
  have h1 : k * m + m ≤ xs.length := by
    rw [h, ← Nat.succ_mul]
    exact Nat.mul_le_mul_right m hk
  rw [chunk_nat h hk, List.length_take, List.length_drop]
  omega
def chunks {α : Type} (xs : List α) (n m : Nat) : List (List α) := (rangeI 0 n).map (chunk xs m)
theorem chunks_mem {α : Type} {xs : List α} {m n : Nat} (h : xs.length = n * m) {t : α} : t ∈ xs ↔ ∃ r ∈ chunks xs n m, t ∈ r := by
  constructor
  · intro ht
    obtain ⟨i, hi, e⟩ := List.mem_iff_getElem.mp ht
    have hm : 0 < m := by
      rcases Nat.eq_zero_or_pos m with z | z
      · rw [h, z] at hi
        omega
      · exact z
    have hk : i / m < n := Nat.div_lt_of_lt_mul (by rw [Nat.mul_comm]; omega)
    refine ⟨chunk xs m ((i / m : Nat) : Int), List.mem_map.mpr ⟨_, mem_rangeI.mpr ⟨Int.natCast_nonneg _, by rw [Int.zero_add]; exact Int.ofNat_lt.mpr hk⟩, rfl⟩, ?_⟩
    rw [chunk_nat h hk]
    refine List.mem_of_getElem? (i := i % m) ?_
    rw [List.getElem?_take_of_lt (Nat.mod_lt _ hm), List.getElem?_drop, Nat.div_add_mod', List.getElem?_eq_getElem hi, e]
  · rintro ⟨r, hr, ht⟩
    obtain ⟨k, hk, rfl⟩ := List.mem_map.mp hr
    exact List.mem_of_mem_drop (List.mem_of_mem_take ht)
theorem map_ok {y : List Str} {n m : Nat} (h : Mended (n * m) y) (n1 : 1 ≤ n) (n6 : n ≤ 6) (m1 : 1 ≤ m) (m6 : m ≤ 6) : MapOk (chunks y n m) := by
  have mem := fun t : Str => chunks_mem (t := t) h.len
  have hlen : (chunks y n m).length = n := by
    unfold chunks
    rw [List.length_map, rangeI_len]
  refine ⟨fun z => ?_, by omega, ⟨m, m1, m6, fun r hr => ?_⟩, fun r hr t ht => h.t t ((mem t).mpr ⟨r, hr, ht⟩), ?_, fun r hr t ht k hk j j0 j1 => ?_⟩
  · rw [z] at hlen
    rw [List.length_nil] at hlen
    omega
  · obtain ⟨k, hk, rfl⟩ := List.mem_map.mp hr
    have hr := mem_rangeI.mp hk
    have := chunk_len (k := k.toNat) h.len (by omega)
    rw [Int.toNat_of_nonneg hr.1] at this
    exact this
  · obtain ⟨t, ht, hd⟩ := h.d
    obtain ⟨r, hr, htr⟩ := (mem t).mp ht
    exact ⟨r, hr, t, htr, hd⟩
  · obtain ⟨t2, h2, e2⟩ := h.s t ((mem t).mpr ⟨r, hr, ht⟩) k hk j j0 j1
    obtain ⟨r2, hr2, ht2⟩ := (mem t2).mp h2
    exact ⟨r2, hr2, t2, ht2, e2⟩
end Fl

set_option Elab.async false
set_option linter.all false
set_option maxRecDepth 100000
set_option maxHeartbeats 4000000
namespace Fl
open PySem PySem.Spec PyProof.Rows L2
abbrev BXP (p : Addr) : HS → Prop := fun S => BX S p
theorem bx_up [Ctx] {p : Addr} : ∀ S1 S2 : HS, BXP p S1 → Grow S1 S2 → BXP p S2 := fun _ _ h g => BX.up h g
theorem bx_th [Ctx] {p : Addr} : ∀ S1 : HS, BXP p S1 → S1.H p ≠ none := fun _ h => BX.there h
theorem Upd.free {S S1 : HS} {p q : Addr} (u : Upd S p S1) (ne : q ≠ p) (h : S1.H q = none) : S.H q = none := by
  cases e : S.H q with
  | none => rfl
  | some o =>
    rw [u.h q ne o e] at h
    cases h
section
variable [c : Ctx]
def SpRw : Sp := fun vs H Q _ => ∃ (S : HS) (p : Addr) (most : Int), S.H = H ∧ vs = [.ref p, .int most] ∧ BX S p ∧ (0 < most ∧ most ≤ 6) ∧ ∀ (S1 : HS) (v : V) (ts : List (List Str)), Upd S p S1 → BX S1 p → MapOk ts → Rp.rep S1.G v (ts.map rowS) → Q v S1.H
theorem cal_law_rows : Cal "_law_rows" 3 SpRw := by
  obtain ⟨fd, FF, G⟩ := fn_sp (d := d_law_rows) (i := i_law_rows) (sp := SpRw) (k := 2) rfl sc_law_rows (fun vs H Q E ⟨S, p, m, _, e, _⟩ => by rw [e]; rfl) (fun f cdv A outer s H vs Q E hX h => by
    obtain ⟨S, p, most, rfl, rfl, hB, ⟨m0, m6⟩, hq⟩ := h
    have nd := sc_law_rows.nd
    refine (show SB (bx d_law_rows N_law_rows f cdv A outer s S.H E) _ _ [some ⟨(⟨p⟩ : Adr)⟩, some ⟨most⟩, none, none, none, none, none] S from ?_) _ (Slots.cons (t := ⟨(⟨p⟩ : Adr)⟩) rfl (Slots.cons (t := ⟨most⟩) rfl (Slots.nones 5)))
    refine s_setU (B := BXP p) (p := p) 2 nd hB (eu_addI er_int bx_up bx_th (eb_draw (er_var 0) (er_var 1) m0)) fun S1 R u1 B1 hR => ?_
    obtain ⟨n, hn, n1, n6⟩ : ∃ n : Nat, R = (n : Int) ∧ 1 ≤ n ∧ n ≤ 6 := by
      obtain ⟨y, ⟨y0, y1⟩, rfl⟩ := hR
      exact ⟨(1 + y).toNat, by omega, by omega, by omega⟩
    subst hn
    refine s_setU (B := BXP p) (p := p) 3 nd B1 (eu_addI er_int bx_up bx_th (eb_draw (er_var 0) (er_var 1) m0)) fun S2 C u2 B2 hC => ?_
    obtain ⟨m, hm, m1, m6'⟩ : ∃ m : Nat, C = (m : Int) ∧ 1 ≤ m ∧ m ≤ 6 := by
      obtain ⟨y, ⟨y0, y1⟩, rfl⟩ := hC
      exact ⟨(1 + y).toNat, by omega, by omega, by omega⟩
    subst hm
    have hnm : n * m ≤ 36 := Nat.mul_le_mul n6 m6'
    refine s_setU (B := BXP p) (p := p) 4 nd B2 (eb_draw (er_var 0) er_int (by decide)) fun S3 sh u3 B3 hsh => ?_
    have uA : Upd S p S3 := (u1.trans u2 B1.there).trans u3 B2.there
    refine s_setN (α := Str) 5 nd en_lst0 fun S4 q g4 q0 m4 => ?_
    have hqp : q ≠ p := fun z => B3.there (z ▸ q0)
    have qS : S.H q = none := uA.free hqp q0
    have uB : Upd S p S4 := uA.trans (g4.toUpd p) B3.there
    refine s_for (α := Int) (xs := rangeI 0 (n * m)) PassesOwn.never rfl (it_rangeN b_range (er_eq (er_mul (er_var 2) (er_var 3) (.inl ⟨by omega, by omega⟩)) (by push_cast; rfl)) (by omega)) (bg_name 6 nd) fun S5 g5 => ?_
    refine ⟨fun rr Γ' S' => ∃ xs : List Str, Γ' = [some ⟨(⟨p⟩ : Adr)⟩, some ⟨most⟩, some ⟨(n : Int)⟩, some ⟨(m : Int)⟩, some ⟨sh⟩, some ⟨(⟨q⟩ : Adr)⟩, none] ∧ Upd S p S' ∧ BX S' p ∧ Same S5.G S'.G ∧ ML S' q xs ∧ xs.length + rr.length = n * m ∧ ∀ t ∈ xs, t ∈ tiles8,
      ⟨[], rfl, uB.trans (g5.toUpd p) (B3.up g4).there, (B3.up g4).up g5, Same.refl _, m4.up g5, by rw [rangeI_len]; simp, fun t ht => by cases ht⟩, fun rr Γ' S' ⟨_, _, _, _, h, _⟩ => h, ?_, ?_⟩
    · rintro pre x rr Γ' S' hx ⟨xs, rfl, uS, BS, s5, mq, hl, ht⟩ S6 g6
      rw [List.length_cons] at hl
      refine s_appU (B := BXP p) (p := p) (BS.up g6) (mq.up g6) hqp (er_var 5) (fun S1 g => (BS.up g6).up g) (eu_call2 cal_law_tile bx_up bx_th (eb_draw (er_var 0) er_int (by decide)) (fun _ _ => er_var 4) (fun x hx => hx)) (by omega) fun S7 S8 y u7 B7 u8 m8 hy => s_next (.keep (.keep (.keep (.keep (.keep (.keep (.drop .nil))))))) ?_
      obtain ⟨_, _, hy8⟩ := hy
      have hy8 : y ∈ tiles8 := hy8
      have uC : Upd S p S7 := (uS.trans (g6.toUpd p) BS.there).trans u7 (BS.up g6).there
      refine ⟨xs ++ [y], rfl, uC.upd B7.there qS u8, BX.upd B7 u8 hqp.symm, ((s5.trans g6.g).trans u7.g).trans u8.g, m8, by rw [List.length_append, List.length_singleton]; omega, fun t h => ?_⟩
      rcases List.mem_append.mp h with h | h
      · exact ht t h
      · rw [List.mem_singleton.mp h]; exact hy8
    · rintro Γ' S' ⟨xs, rfl, uS, BS, s5, mq, hl, ht⟩
      have hl : xs.length = n * m := by rw [List.length_nil] at hl; omega
      have hpos : 1 ≤ n * m := Nat.mul_le_mul n1 m1
      refine SB.fixM (S0 := emptyS) 5 empty_grow rfl mq fun S9 e9 _ s9 hn9 => ?_
      have B9 : BX S9 p := by
        obtain ⟨h1, v, zs, k, h2, r, h0⟩ := BS
        exact ⟨hn9 p hqp.symm h1, v, zs, k, by rw [e9]; exact h2, Rp.mono s9 r, h0⟩
      have u9 : Upd S p S9 := ⟨uS.g.trans s9, fun r hr o h => by rw [e9]; exact uS.h r hr o h, fun r h1 h2 => hn9 r (fun z => h1 (by rw [z]; exact qS)) (uS.n r h1 h2)⟩
      refine s_setU (B := BXP p) (p := p) 5 nd B9 (eu_call3 cal_law_mended bx_up bx_th (er_var 5) (eb_draw (er_var 0) er_int (by decide)) (fun y _ => ⟨ht, (fun z : xs = [] => by rw [z] at hl; rw [List.length_nil] at hl; omega), by show xs.length ≤ 36; omega⟩)) fun S10 y u10 B10 hy => ?_
      obtain ⟨_, _, hy⟩ := hy
      have hy : Mended (n * m) y := by rw [← hl]; exact hy
      refine s_ret ((en_lc (xs := rangeI 0 n) (h := fun k : Int => rowS (chunk y m k)) 6 rfl nd (it_rangeN b_range (er_var 2) (by omega)) (by rw [rangeI_len]; omega) (blkOk_by (N := N_law_rows) (sc := defScope s_law_rows) (by decide +kernel)) (fun x hx S11 g11 X' hb => ?_)).er) fun S11 v g11 rv => ?_
      · obtain ⟨_, _, _, _, _, rfl⟩ := hb
        have hr := mem_rangeI.mp hx
        have hx6 : x ≤ 6 := by omega
        have hcl := chunk_len (k := x.toNat) hy.len (by omega)
        rw [Int.toNat_of_nonneg hr.1] at hcl
        have hc8 : ∀ t ∈ chunk y m x, t ∈ tiles8 := fun t ht => hy.t t ((chunks_mem hy.len).mpr ⟨_, List.mem_map.mpr ⟨x, hx, rfl⟩, ht⟩)
        exact er_join (ys := chunk y m x) er_str (er_sl (er_var 5) (er_mul (er_var 6) (er_var 3) (.inl ⟨by omega, by omega⟩)) (er_add (er_mul (er_var 6) (er_var 3) (.inl ⟨by omega, by omega⟩)) (er_var 3))) (by rw [row_sum hc8, hcl]; show m + m * 0 ≤ _; omega)
      · have eM : (rangeI 0 n).map (fun k : Int => rowS (chunk y m k)) = (chunks y n m).map rowS := by
          unfold chunks
          rw [List.map_map]
          rfl
        rw [eM] at rv
        exact hq S11 v _ ((u9.trans u10 B9.there).trans (g11.toUpd p) B10.there) (B10.up g11) (map_ok hy n1 n6 m1 m6') rv)
  exact ⟨_, fd, _, FF, g_law_rows, G.kp, FunD.bindsN G (fun _ _ _ _ _ _ us hl => match us, hl with | [_, _], _ => rfl)⟩
end
end Fl

set_option Elab.async false
set_option linter.all false
set_option maxRecDepth 100000
set_option maxHeartbeats 4000000
namespace Fl
open PySem PySem.Spec PyProof.Rows L2
/-- a dict that holds a text under "text" -/
structure Wld where
  text : Str
instance : Rp Wld := ⟨fun H v w => ∃ (a : Addr) (kvs : List (Key × V)), v = .ref a ∧ H a = some (.dK kvs) ∧ valV kvs (Sum.inr ("text" : Str) : Key) = some (V.str w.text), fun s ⟨a, kvs, e, h, r⟩ => ⟨a, kvs, e, s _ _ h, r⟩⟩
theorem world_get (z : Str) (u2 u3 u4 u5 : V) : valV (mergeK [] [((Sum.inr ("text" : Str) : Key), V.str z), (Sum.inr ("places" : Str), u2), (Sum.inr ("near" : Str), u3), (Sum.inr ("doors" : Str), u4), (Sum.inr ("stations" : Str), u5)]) (Sum.inr ("text" : Str) : Key) = some (V.str z) := by kernel_rfl
section
variable {α β γ δ : Type} [Rp α] [Rp β] [Rp γ] [Rp δ] {X : Cx} {v1 v2 v3 v4 v5 a : Expr} {Γ : Gm} {S : HS} {pos : Pos} {z : Str} {x2 : α} {x3 : β} {x4 : γ} {x5 : δ}
theorem er_world {j1 j2 j3 j4 j5 p1 p2 p3 p4 p5} (h1 : ER X v1 Γ S z) (h2 : ER X v2 Γ S x2) (h3 : ER X v3 Γ S x3) (h4 : ER X v4 Γ S x4) (h5 : ER X v5 Γ S x5) :
    ER X (.Dict [some (.Constant (.str "text") j1 p1), some (.Constant (.str "places") j2 p2), some (.Constant (.str "near") j3 p3), some (.Constant (.str "doors") j4 p4), some (.Constant (.str "stations") j5 p5)] [v1, v2, v3, v4, v5] pos) Γ S (⟨z⟩ : Wld) := fun σ hσ S1 g Q k => by
  refine w_pe (pe_disp (pps_cons pe_str pe_w (pps_cons pe_str pe_w (pps_cons pe_str pe_w (pps_cons pe_str pe_w (pps_cons pe_str pe_w pps_nil))))) rfl rfl (by simp) (by show 5 ≤ 15; decide)) (fun p hp => ?_)
  have gA : Grow S1 (S1.add p (.dK []) (S1.le.free hp)) := .add S1 p _ hp
  have hpA : (S1.add p (.dK []) (S1.le.free hp)).H p = some (.dK []) := upd_same
  have hnA : (S1.add p (.dK []) (S1.le.free hp)).G p = none := S1.le.free hp
  refine h1 σ hσ (S1.add p (.dK []) (S1.le.free hp)) (g.trans gA) _ fun S2 u1 g2 r1 => h2 σ hσ S2 ((g.trans gA).trans g2) _ fun S3 u2 g3 r2 => h3 σ hσ S3 (((g.trans gA).trans g2).trans g3) _ fun S4 u3 g4 r3 => h4 σ hσ S4 ((((g.trans gA).trans g2).trans g3).trans g4) _ fun S5 u4 g5 r4 => h5 σ hσ S5 (((((g.trans gA).trans g2).trans g3).trans g4).trans g5) _ fun S6 u5 g6 r5 => ?_
  cases (show u1 = V.str z from r1)
  have gB := (((g2.trans g3).trans g4).trans g5).trans g6
  have hp6 := gB.h _ _ hpA
  have hn6 : S6.G p = none := gB.n p (by rw [hpA]; exact fun z => nomatch z) hnA
  refine ⟨hp6, [(Sum.inr ("text" : Str), V.str z), (Sum.inr ("places" : Str), u2), (Sum.inr ("near" : Str), u3), (Sum.inr ("doors" : Str), u4), (Sum.inr ("stations" : Str), u5)], rfl, (by show 5 ≤ 15; decide), ?_⟩
  obtain ⟨o, ho⟩ : ∃ o, o = HO.dK (mergeK [] [((Sum.inr ("text" : Str) : Key), V.str z), (Sum.inr ("places" : Str), u2), (Sum.inr ("near" : Str), u3), (Sum.inr ("doors" : Str), u4), (Sum.inr ("stations" : Str), u5)]) := ⟨_, rfl⟩
  rw [← ho]
  have leF : Same (upd S6.G p o) (upd S6.H p o) := fun b u q => by
    by_cases hb : b = p
    · subst hb
      rw [upd_same] at q ⊢
      exact q
    · rw [upd_ne hb] at q ⊢
      exact S6.le _ _ q
  have gF : Grow S1 ⟨upd S6.G p o, upd S6.H p o, leF⟩ := by
    refine ⟨fun b u q => ?_, fun b u q => ?_, fun q h1 h2 => ?_⟩
    · have hb : b ≠ p := ne_of_none q hp
      show upd S6.H p o b = some u
      rw [upd_ne hb]
      exact gB.h _ _ (gA.h _ _ q)
    · have hb : b ≠ p := ne_of_none (S1.le _ _ q) hp
      show upd S6.G p o b = some u
      rw [upd_ne hb]
      exact gB.g _ _ (gA.g _ _ q)
    · have hb : q ≠ p := fun z => h1 (by rw [z]; exact hp)
      show upd S6.G p o q = none
      rw [upd_ne hb]
      exact (gA.trans gB).n q h1 h2
  refine k ⟨upd S6.G p o, upd S6.H p o, leF⟩ (.ref p) gF ⟨p, _, rfl, ?_, world_get z u2 u3 u4 u5⟩
  show upd S6.G p o p = _
  rw [upd_same, ho]
theorem er_wtext [Ctx] {k0 : Nat} [hX : InC k0 X] {w : Wld} {j p2} (ha : ER X a Γ S w) : ER X (.Subscript a (.Constant (.str "text") j p2) pos) Γ S w.text := fun σ hσ S1 g Q k =>
  w_pe (pe_dget (unit_ok hX) pe_w pe_str (fun _ _ => rfl)) (ha σ hσ S1 g _ fun S2 u g2 ru => by
    obtain ⟨q, kvs, e1, e2, r⟩ := ru
    exact ⟨q, V.str w.text, e1, .inl ⟨kvs, Sum.inr ("text" : Str), rd_of S2.le e2, rfl, r.symm⟩, k S2 _ g2 rfl⟩)
end
end Fl

set_option Elab.async false
set_option linter.all false
set_option maxRecDepth 100000
set_option maxHeartbeats 4000000
namespace Fl
open PySem PySem.Spec PyProof.Rows L2
section
variable [c : Ctx]
theorem cal_law_world : Cal "_law_world" 2 (Spc (fun a : List Str × Unit => ∃ ts, MapOk ts ∧ a.1 = ts.map rowS) fun a (w : Wld) => ∀ ts, MapOk ts → a.1 = ts.map rowS → w.text = mapText ts) := by
  refine mkCal (d := d_law_world) i_law_world sc_law_world g_law_world (fun f cdv A outer s S a Q E hp hX hq => ?_) (hb := fun _ _ _ _ _ _ us hl => match us, hl with | [_], _ => rfl)
  obtain ⟨rows, ⟨⟩⟩ := a
  obtain ⟨ts, ok, hrows⟩ : ∃ ts, MapOk ts ∧ rows = ts.map rowS := hp
  subst hrows
  replace hq : ∀ S1 u (z : Wld), Grow S S1 → Rp.rep S1.G u z → (∀ ts', MapOk ts' → ts.map rowS = ts'.map rowS → z.text = mapText ts') → Q u S1.H := hq
  have nd := sc_law_world.nd
  have n6 := ok.n6
  obtain ⟨m, m1, m6, hm⟩ := ok.w
  have ones : ∀ r ∈ ts, ∀ t ∈ r, OneS t := fun r hr => tile_ones (ok.t r hr)
  have rlen : ∀ r ∈ ts, (rowS r).length = m := fun r hr => by rw [row_len (ones r hr), hm r hr]
  show SB _ _ _ [some ⟨ts.map rowS⟩, none, none, none, none, none, none, none, none, none, none, none] S
  refine s_setN (α := Int × Int) 1 nd en_lst0 fun S1 q1 g1 q10 m1' => ?_
  refine s_setN (α := Int) 2 nd en_lst0 fun S2 q2 g2 q20 m2 => ?_
  refine s_setN (α := List Int) 3 nd en_lst0 fun S3 q3 g3 q30 m3 => ?_
  have e21 : q2 ≠ q1 := m1'.ne q20
  have e32 : q3 ≠ q2 := m2.ne q30
  have e31 : q3 ≠ q1 := (m1'.up g2).ne q30
  have f1 : S.H q1 = none := q10
  have f2 : S.H q2 = none := g1.h.free q20
  have f3 : S.H q3 = none := (g1.trans g2).h.free q30
  have g13 := (g1.trans g2).trans g3
  refine s_set (x := ("" : Str)) 4 nd er_str fun S4 g4 => ?_
  refine s_for (α := Int) (xs := rangeI 0 ts.length) PassesOwn.never rfl (it_rangeN b_range (er_eq (er_len b_len (er_var 0)) (by rw [List.length_map])) (by omega)) (bg_name 5 nd) fun S5 g5 => ?_
  refine ⟨fun rr Γ' S' => ∃ (xs : List (Int × Int)) (l : List Str), Γ' = [some ⟨ts.map rowS⟩, some ⟨(⟨q1⟩ : Adr)⟩, some ⟨(⟨q2⟩ : Adr)⟩, some ⟨(⟨q3⟩ : Adr)⟩, some ⟨rowS l⟩, none, none, none, none, none, none, none] ∧ Grow S S' ∧ Same S5.G S'.G ∧ ML S' q1 xs ∧ ML S' q2 ([] : List Int) ∧ ML S' q3 ([] : List (List Int)) ∧ l.length = xs.length ∧ xs.length + 6 * rr.length ≤ 36 ∧ (∀ t ∈ l, t ∈ tiles8) ∧ ∀ x ∈ xs, Near100 x,
    ⟨[], [], rfl, (g13.trans g4).trans g5, Same.refl _, (((m1'.up g2).up g3).up g4).up g5, ((m2.up g3).up g4).up g5, (m3.up g4).up g5, rfl, by rw [rangeI_len, List.length_nil]; omega, (fun t h => by cases h), (fun t h => by cases h)⟩, fun rr Γ' S' ⟨_, _, _, _, h, _⟩ => h, ?_, ?_⟩
  · rintro pre i rr Γ' S' hx ⟨xs, l, rfl, gS, s5, ma, mb, mc, hl, hn, h8, hnr⟩ S6 g6
    rw [List.length_cons] at hn
    obtain ⟨ei, hi⟩ := rangeI_at hx
    have i0 : 0 ≤ i := by omega
    have i1 : i < (ts.length : Int) := by omega
    obtain ⟨r, hr⟩ : ∃ r, ts[i.toNat]? = some r := ⟨_, List.getElem?_eq_getElem (by omega)⟩
    have hrm := List.mem_of_getElem? hr
    have hrow : (ts.map rowS)[i.toNat]? = some (rowS r) := by rw [List.getElem?_map, hr]; rfl
    have hlr := rlen r hrm
    refine s_for (α := Int) (xs := rangeI 0 m) PassesOwn.never rfl (it_rangeN b_range (er_eq (er_lens (s := rowS r) b_len (er_ix (er_var 0) (er_var 5) i0 hrow) (by rw [hlr, sizeLine_eq]; omega)) (by rw [hlr])) (by omega)) (bg_name 6 nd) fun S7 g7 => ?_
    refine ⟨fun r2 Γ' S' => ∃ (xs : List (Int × Int)) (l : List Str), Γ' = [some ⟨ts.map rowS⟩, some ⟨(⟨q1⟩ : Adr)⟩, some ⟨(⟨q2⟩ : Adr)⟩, some ⟨(⟨q3⟩ : Adr)⟩, some ⟨rowS l⟩, some ⟨i⟩, none, none, none, none, none, none] ∧ Grow S S' ∧ Same S7.G S'.G ∧ ML S' q1 xs ∧ ML S' q2 ([] : List Int) ∧ ML S' q3 ([] : List (List Int)) ∧ l.length = xs.length ∧ xs.length + r2.length + 6 * rr.length ≤ 36 ∧ (∀ t ∈ l, t ∈ tiles8) ∧ ∀ x ∈ xs, Near100 x,
      ⟨xs, l, rfl, (gS.trans g6).trans g7, Same.refl _, (ma.up g6).up g7, (mb.up g6).up g7, (mc.up g6).up g7, hl, by rw [rangeI_len]; omega, h8, hnr⟩, fun rr Γ' S' ⟨_, _, _, _, h, _⟩ => h, ?_, ?_⟩
    · rintro pre2 j r2 Γ' S' hx2 ⟨xs, l, rfl, gS, s7, ma, mb, mc, hl, hn, h8, hnr⟩ S8 g8
      rw [List.length_cons] at hn
      obtain ⟨ej, hj⟩ := rangeI_at hx2
      have j0 : 0 ≤ j := by omega
      have j1 : j < (m : Int) := by omega
      obtain ⟨t, ht⟩ : ∃ t, r[j.toNat]? = some t := ⟨_, List.getElem?_eq_getElem (by rw [hm r hrm]; omega)⟩
      have htm := List.mem_of_getElem? ht
      have ht8 := ok.t r hrm t htm
      obtain ⟨ch, hch, et⟩ := row_at (ones r hrm) ht
      have sgnE : ∀ {X : Cx} {S : HS} {Γ : Gm} {p1 p2 p3 p4 p5}, ER X (.Name "_law_rows_here" p1) Γ S (ts.map rowS) → ER X (.Name "_law_row_here" p2) Γ S i → ER X (.Name "_law_column" p3) Γ S j → ER X (.Subscript (.Subscript (.Name "_law_rows_here" p1) (.Name "_law_row_here" p2) p4) (.Name "_law_column" p3) p5) Γ S t := fun h1 h2 h3 => by
        rw [et]
        exact er_ixS (s := rowS r) (er_ix h1 h2 i0 hrow) h3 (by rw [hlr, sizeLine_eq]; omega) j0 hch
      refine s_if (tr_cmp (cv_neS (sgnE (er_var 0) (er_var 5) (er_var 6)) er_str)) (fun tt S9 g9 => ?_) (fun tt S9 g9 => s_end (s_next (.keep (.keep (.keep (.keep (.keep (.keep (.drop (.drop (.drop (.drop (.drop (.drop .nil)))))))))))) ⟨xs, l, rfl, (gS.trans g8).trans g9, s7.trans (g8.trans g9).g, (ma.up g8).up g9, (mb.up g8).up g9, (mc.up g8).up g9, hl, by omega, h8, hnr⟩))
      refine s_app (x := (i, j)) ((ma.up g8).up g9) (er_var 1) (er_pair (er_var 5) (er_var 6)) (by omega) fun S10 u10 m10 => ?_
      have l8 : ∀ t2 ∈ l, OneS t2 := tile_ones h8
      refine s_set (x := rowS (l ++ [t])) 4 nd (er_eq (er_adds (er_var 4) (sgnE (er_var 0) (er_var 5) (er_var 6)) (by
        rw [row_len l8, et, sizeLine_eq]
        show l.length + 1 ≤ _
        omega)) (row_snoc l t)) fun S11 g11 => s_end (s_next (.keep (.keep (.keep (.keep (.keep (.keep (.drop (.drop (.drop (.drop (.drop (.drop .nil)))))))))))) ?_)
      refine ⟨xs ++ [(i, j)], l ++ [t], rfl, (((gS.trans g8).trans g9).upd f1 u10).trans g11, ((s7.trans (g8.trans g9).g).trans u10.g).trans g11.g, m10.up g11, (((mb.up g8).up g9).upd u10 e21).up g11, (((mc.up g8).up g9).upd u10 e31).up g11, by rw [List.length_append, List.length_append, hl]; rfl, by rw [List.length_append, List.length_singleton]; omega, fun t2 h2 => ?_, fun x hx => ?_⟩
      · rcases List.mem_append.mp h2 with h2 | h2
        · exact h8 t2 h2
        · rw [List.mem_singleton.mp h2]; exact ht8
      · rcases List.mem_append.mp hx with hx | hx
        · exact hnr x hx
        · rw [List.mem_singleton.mp hx]
          exact ⟨i0, by show i ≤ 100; omega, j0, by show j ≤ 100; omega⟩
    · rintro Γ' S' ⟨xs, l, rfl, gS, s7, ma, mb, mc, hl, hn, h8, hnr⟩
      exact s_next (.keep (.keep (.keep (.keep (.keep (.drop (.drop (.drop (.drop (.drop (.drop (.drop .nil)))))))))))) ⟨xs, l, rfl, gS, (s5.trans (g6.trans g7).g).trans s7, ma, mb, mc, hl, by rw [List.length_nil] at hn; omega, h8, hnr⟩
  · rintro Γ' S' ⟨xs, l, rfl, gS, s5, ma, mb, mc, hl, hn, h8, hnr⟩
    have hx36 : xs.length ≤ 36 := by omega
    have l8 : ∀ t2 ∈ l, OneS t2 := tile_ones h8
    have ll : (rowS l).length = l.length := row_len l8
    refine s_setN (α := List Int) 7 nd en_lst0 fun S6 q4 g6 q40 m4 => ?_
    have e41 : q4 ≠ q1 := ma.ne q40
    have e42 : q4 ≠ q2 := mb.ne q40
    have e43 : q4 ≠ q3 := mc.ne q40
    have f4 : S.H q4 = none := gS.h.free q40
    refine SB.fixM 1 (gS.trans g6) f1 (ma.up g6) fun S7 e7 g7 s7 hn7 => ?_
    have mb7 := (mb.up g6).fix e7 s7 hn7 e21
    have mc7 := (mc.up g6).fix e7 s7 hn7 e31
    have md7 := m4.fix e7 s7 hn7 e41
    refine s_for (α := Int × Int) (xs := xs) PassesOwn.never rfl (it_list (er_var 1)) (bg_name 8 nd) fun S8 g8 => ?_
    refine ⟨fun rr Γ' S' => ∃ ns : List (List Int), Γ' = [some ⟨ts.map rowS⟩, some ⟨xs⟩, some ⟨(⟨q2⟩ : Adr)⟩, some ⟨(⟨q3⟩ : Adr)⟩, some ⟨rowS l⟩, none, none, some ⟨(⟨q4⟩ : Adr)⟩, none, none, none, none] ∧ Grow S S' ∧ Same S8.G S'.G ∧ ML S' q2 ([] : List Int) ∧ ML S' q3 ([] : List (List Int)) ∧ ML S' q4 ns ∧ ns.length + rr.length ≤ 36 ∧ ∀ x ∈ rr, x ∈ xs,
      ⟨[], rfl, g7.trans g8, Same.refl _, mb7.up g8, mc7.up g8, md7.up g8, by rw [List.length_nil]; omega, fun x hx => hx⟩, fun rr Γ' S' ⟨_, _, _, h, _⟩ => h, ?_, ?_⟩
    · rintro pre x rr Γ' S' hx ⟨ns, rfl, gS, s8, mb, mc, md, hn, hr⟩ S9 g9
      rw [List.length_cons] at hn
      have hxm := hr x List.mem_cons_self
      refine s_app (md.up g9) (er_var 7) ((en_lcI (xs := rangeI 0 xs.length) (h := fun k : Int => k) 9 (fun k => besideB x (xs.getD k.toNat (0, 0))) rfl nd (it_rangeN b_range (er_len b_len (er_var 1)) (by omega)) (by rw [rangeI_len]; omega) (blkOk_by (N := N_law_world) (sc := defScope s_law_world) (by decide +kernel)) (fun k hk S10 g10 X' hb => ?_) (fun k hk _ S10 g10 X' hb => ?_)).er) (by omega) fun S10 u10 m10 => s_next (.keep (.keep (.keep (.keep (.keep (.keep (.keep (.keep (.drop (.drop (.drop (.drop .nil)))))))))))) ⟨_, rfl, (gS.trans g9).upd f4 u10, (s8.trans g9.g).trans u10.g, (mb.up g9).upd u10 e42.symm, (mc.up g9).upd u10 e43.symm, m10, by rw [List.length_append, List.length_singleton]; omega, fun y hy => hr y (List.mem_cons_of_mem _ hy)⟩
      · obtain ⟨_, _, _, _, _, rfl⟩ := hb
        have hk := mem_rangeI.mp hk
        have hg := getP (d := ((0 : Int), (0 : Int))) hk.1 (show k < (xs.length : Int) by omega)
        exact tr_bool (er_call cal_law_beside (u := (x, xs.getD k.toNat (0, 0), ())) (ar_cons (er_var 8) (ar_cons (er_ix (er_var 1) (er_var 9) hk.1 hg) ar_nil)) ⟨hnr x hxm, hnr _ (List.mem_of_getElem? hg)⟩)
      · obtain ⟨_, _, _, _, _, rfl⟩ := hb
        exact er_var 9
    · rintro Γ' S' ⟨ns, rfl, gS, s8, mb, mc, md, hn, hr⟩
      have tileE : ∀ {X : Cx} {S : HS} {Γ : Gm} {p1 p2 p3} {k : Int}, 0 ≤ k → k < (l.length : Int) → ER X (.Name "_law_tiles" p1) Γ S (rowS l) → ER X (.Name "_law_k" p2) Γ S k → ER X (.Subscript (.Name "_law_tiles" p1) (.Name "_law_k" p2) p3) Γ S (tileAt l k) := fun h0 h1 e1 e2 => by
        obtain ⟨ch, hch, et⟩ := row_at l8 (tileAt_get h0 h1)
        rw [et]
        exact er_ixS (s := rowS l) e1 e2 (by rw [ll, sizeLine_eq]; omega) h0 hch
      refine s_for (α := Int) (xs := rangeI 0 l.length) PassesOwn.never rfl (it_rangeN b_range (er_eq (er_lens (s := rowS l) b_len (er_var 4) (by rw [ll, sizeLine_eq]; omega)) (by rw [ll])) (by omega)) (bg_name 9 nd) fun S9 g9 => ?_
      refine ⟨fun rr Γ' S' => ∃ ds : List Int, Γ' = [some ⟨ts.map rowS⟩, some ⟨xs⟩, some ⟨(⟨q2⟩ : Adr)⟩, some ⟨(⟨q3⟩ : Adr)⟩, some ⟨rowS l⟩, none, none, some ⟨(⟨q4⟩ : Adr)⟩, none, none, none, none] ∧ Grow S S' ∧ Same S9.G S'.G ∧ ML S' q2 ds ∧ ML S' q3 ([] : List (List Int)) ∧ ds.length + rr.length ≤ 36,
        ⟨[], rfl, gS.trans g9, Same.refl _, mb.up g9, mc.up g9, by rw [rangeI_len, List.length_nil]; omega⟩, fun rr Γ' S' ⟨_, _, _, h, _⟩ => h, ?_, ?_⟩
      · rintro pre k rr Γ' S' hx ⟨ds, rfl, gS, s9, mb, mc, hn⟩ S10 g10
        rw [List.length_cons] at hn
        obtain ⟨ek, hk⟩ := rangeI_at hx
        have k0 : 0 ≤ k := by omega
        have k1 : k < (l.length : Int) := by omega
        refine s_if (tr_or (tr_cmp (cv_eqS (tileE k0 k1 (er_var 4) (er_var 9)) er_str)) fun _ => tr_bool (er_islower (tileE k0 k1 (er_var 4) (er_var 9)))) (fun tt S11 g11 => ?_) (fun tt S11 g11 => s_end (s_next (.keep (.keep (.keep (.keep (.keep (.keep (.keep (.keep (.keep (.drop (.drop (.drop .nil)))))))))))) ⟨ds, rfl, (gS.trans g10).trans g11, s9.trans (g10.trans g11).g, (mb.up g10).up g11, (mc.up g10).up g11, by omega⟩))
        refine s_app (x := k) ((mb.up g10).up g11) (er_var 2) (er_var 9) (by omega) fun S12 u12 m12 => s_end (s_next (.keep (.keep (.keep (.keep (.keep (.keep (.keep (.keep (.keep (.drop (.drop (.drop .nil)))))))))))) ⟨ds ++ [k], rfl, ((gS.trans g10).trans g11).upd f2 u12, (s9.trans (g10.trans g11).g).trans u12.g, m12, ((mc.up g10).up g11).upd u12 e32, by rw [List.length_append, List.length_singleton]; omega⟩)
      · rintro Γ' S' ⟨ds, rfl, gS, s9, mb, mc, hn⟩
        refine s_for (α := Str) (xs := lets3) PassesOwn.never rfl (it_list (er_lst3 er_str er_str er_str)) (bg_name 10 nd) fun S10 g10 => ?_
        refine ⟨fun rr Γ' S' => ∃ sts : List (List Int), Γ' = [some ⟨ts.map rowS⟩, some ⟨xs⟩, some ⟨(⟨q2⟩ : Adr)⟩, some ⟨(⟨q3⟩ : Adr)⟩, some ⟨rowS l⟩, none, none, some ⟨(⟨q4⟩ : Adr)⟩, none, none, none, none] ∧ Grow S S' ∧ Same S10.G S'.G ∧ ML S' q3 sts ∧ sts.length + rr.length ≤ 3,
          ⟨[], rfl, gS.trans g10, Same.refl _, mc.up g10, by show 0 + 3 ≤ 3; decide⟩, fun rr Γ' S' ⟨_, _, _, h, _⟩ => h, ?_, ?_⟩
        · rintro pre lt rr Γ' S' hx ⟨sts, rfl, gS, s10, mc, hn⟩ S11 g11
          rw [List.length_cons] at hn
          refine s_setLcI (xs := rangeI 0 l.length) (h := fun k : Int => k) 11 9 (fun k => decide (Txt.upper (tileAt l k) = lt)) rfl nd (it_rangeN b_range (er_eq (er_lens (s := rowS l) b_len (er_var 4) (by rw [ll, sizeLine_eq]; omega)) (by rw [ll])) (by omega)) (by rw [rangeI_len]; omega) (blkOk_by (N := N_law_world) (sc := defScope s_law_world) (by decide +kernel)) (fun k hk S12 g12 X' hb => ?_) (fun k hk _ S12 g12 X' hb => ?_) (fun S12 q5 g12 q50 m12 => ?_) (sw_true rfl rfl rfl (by decide +kernel))
          · obtain ⟨_, _, _, _, _, rfl⟩ := hb
            have hk := mem_rangeI.mp hk
            have k1 : k < (l.length : Int) := by omega
            have hg := tileAt_get hk.1 k1
            exact tr_cmp (cv_eqS (er_upper (tileE hk.1 k1 (er_var 4) (er_var 9)) (by
              obtain ⟨ch, e⟩ := l8 _ (List.mem_of_getElem? hg)
              rw [e]
              show 1 ≤ 5592405
              decide)) (er_var 10))
          · obtain ⟨_, _, _, _, _, rfl⟩ := hb
            exact er_var 9
          rw [List.map_id'] at m12
          have mcB := (mc.up g11).up g12
          have e53 : q5 ≠ q3 := (mc.up g11).ne q50
          have gB := (gS.trans g11).trans g12
          refine SB.fixM 11 gB ((gS.trans g11).h.free q50) m12 fun S13 e13 g13 s13 hn13 => ?_
          have mcC := mcB.fix e13 s13 hn13 e53.symm
          have sB : Same S10.G S13.G := (s10.trans (g11.trans g12).g).trans s13
          refine s_if (tr_list (er_var 11)) (fun tt S14 g14 => ?_) (fun tt S14 g14 => s_end (s_next (.keep (.keep (.keep (.keep (.keep (.keep (.keep (.keep (.keep (.drop (.drop (.drop .nil)))))))))))) ⟨sts, rfl, g13.trans g14, sB.trans g14.g, mcC.up g14, by omega⟩))
          exact s_app (mcC.up g14) (er_var 3) (er_var 11) (by omega) fun S15 u15 m15 => s_end (s_next (.keep (.keep (.keep (.keep (.keep (.keep (.keep (.keep (.keep (.drop (.drop (.drop .nil)))))))))))) ⟨_, rfl, (g13.trans g14).upd f3 u15, (sB.trans g14.g).trans u15.g, m15, by rw [List.length_append, List.length_singleton]; omega⟩)
        · rintro Γ' S' ⟨sts, rfl, gS, s10, mc, hn⟩
          have hsum : ((ts.map rowS).map (·.length)).sum = ts.length * m := lens_rows ones hm
          have htm : ts.length * m ≤ 36 := Nat.mul_le_mul n6 m6
          refine s_ret (x := (⟨mapText ts⟩ : Wld)) (er_world (er_join (s := "\n") (ys := ts.map rowS) er_str (er_var 0) (by rw [hsum, List.length_map]; show ts.length * m + ts.length * 1 ≤ _; omega)) (er_var 1 (x := xs)) (er_var 7 (x := (⟨q4⟩ : Adr))) (er_var 2 (x := (⟨q2⟩ : Adr))) (er_var 3 (x := (⟨q3⟩ : Adr)))) fun S11 v g11 rv => hq S11 v _ (gS.trans g11) rv fun ts' _ e => ?_
          show mapText ts = mapText ts'
          unfold mapText
          rw [e]
end
end Fl

set_option Elab.async false
set_option linter.all false
set_option maxRecDepth 100000
set_option maxHeartbeats 4000000
namespace Fl
open PySem PySem.Spec PyProof.Rows L2
theorem evin_ok {st ro : Int} {e : Ev} (h : EvIn st ro e) : e.Ok := by
  cases e with
  | ord a b => exact trivial
  | one k r =>
    obtain ⟨hk, _⟩ : (k = "fail" ∨ k = "tow" ∨ k = "go") ∧ 0 ≤ r ∧ r < ro := h
    show k ≠ "order"
    rcases hk with rfl | rfl | rfl <;> decide
theorem evin_mono {st ro st' ro' : Int} {e : Ev} (h : EvIn st ro e) (h1 : st ≤ st') (h2 : ro ≤ ro') : EvIn st' ro' e := by
  cases e with
  | ord a b =>
    obtain ⟨a0, a1, b0, b1⟩ : 0 ≤ a ∧ a < st ∧ 0 ≤ b ∧ b < st := h
    exact ⟨a0, by omega, b0, by omega⟩
  | one k r =>
    obtain ⟨hk, r0, r1⟩ : (k = "fail" ∨ k = "tow" ∨ k = "go") ∧ 0 ≤ r ∧ r < ro := h
    exact ⟨hk, r0, by omega⟩
/-- what a turn of the history gives -/
def ThenOk (F : Flt) (y : Option Ev × Flt) : Prop := (y.1 = none ∧ y.2 = F) ∨ ∃ ev, y.1 = some ev ∧ EvS ev ∧ okEv F ev = true ∧ y.2 = happenF F ev
structure LawF (F : Flt) : Prop where
  ok : F.Ok
  r1 : 1 ≤ F.robots.length
  st : F.floor.stations.length ≤ 3
section
variable [c : Ctx]
theorem cal_law_then : Cal "_law_then" 15 (Spc (fun a : Flt × Int × Unit => LawF a.1 ∧ a.1.orders.length < 1000) fun a (y : Option Ev × Flt) => ThenOk a.1 y) := by
  refine mkCal (d := d_law_then) i_law_then sc_law_then g_law_then (fun f cdv A outer s S a Q E hp hX hq => ?_) (hb := fun _ _ _ _ _ _ us hl => match us, hl with | [_, _], _ => rfl)
  obtain ⟨F, v, ⟨⟩⟩ := a
  obtain ⟨⟨ok, rb1, st3⟩, ho⟩ : LawF F ∧ F.orders.length < 1000 := hp
  replace hq : ∀ S1 u (z : Option Ev × Flt), Grow S S1 → Rp.rep S1.G u z → ThenOk F z → Q u S1.H := hq
  have nd := sc_law_then.nd
  have n4 := ok.n4
  show SB _ _ _ [some ⟨F⟩, some ⟨v⟩, none, none, none, none] S
  have fin : ∀ (S' : HS) (ev : Ev), Grow S S' → EvIn F.floor.stations.length F.robots.length ev →
      SB (bx d_law_then N_law_then f cdv A outer s S.H E) ((defBody s_law_then).drop 3) { nx := fun _ H' => Q .non H', rt := Q } [some ⟨F⟩, some ⟨v⟩, some ⟨(F.robots.length : Int)⟩, some ⟨ev⟩, none, none] S' := by
    intro S' ev gg hev
    refine s_set (x := movedO F ev) 5 nd (ER.old (er_callN cal_law_moved (u := (F, ev, ())) (ar_cons (er_var 0) (ar_cons (er_var 3) ar_nil)) ⟨ok, ho, evin_ok hev⟩)) fun S1 g1 => ?_
    have g11 := gg.trans g1
    refine s_if (tr_cmp (cv_isN (er_var 5))) (fun t S2 g2 => ?_) (fun t S2 g2 => s_end ?_)
    · exact s_ret (x := ((none : Option Ev), F)) (er_pair er_non (er_var 0)) fun S3 u g3 rv => hq S3 u _ ((g11.trans g2).trans g3) rv (.inl ⟨rfl, rfl⟩)
    · cases hok : okEv F ev with
      | false =>
        unfold movedO at t
        rw [hok] at t
        cases t
      | true =>
        have e : movedO F ev = some (happenF F ev) := by
          unfold movedO
          rw [if_pos hok]
        rw [e]
        exact s_ret (x := (some ev, happenF F ev)) (er_pair (er_some (er_var 3)) (er_out (x := happenF F ev) (er_var 5))) fun S3 u g3 rv => hq S3 u _ ((g11.trans g2).trans g3) rv (.inr ⟨ev, rfl, evin_mono hev (by omega) (by omega), hok, rfl⟩)
  refine s_set (x := (F.robots.length : Int)) 2 nd (er_len b_len (eFlt_robots (er_var 0))) fun S1 g1 => ?_
  refine s_setV 3 nd (ev_call cal_law_event (u := (v, (F.floor.stations.length : Int), (F.robots.length : Int), ())) (ar_cons (er_var 1) (ar_cons (er_len b_len (eFlo_stations (eFlt_floor (er_var 0)))) (ar_cons (er_var 2) ar_nil))) ⟨by show (0 : Int) ≤ (F.floor.stations.length : Int); omega, by show (F.floor.stations.length : Int) ≤ 100; omega, by show (0 : Int) < (F.robots.length : Int); omega, by show (F.robots.length : Int) ≤ 100; omega⟩) fun S2 ev g2 hev => ?_
  have hev : EvIn F.floor.stations.length F.robots.length ev := hev
  refine s_if (tr_cmp (cv_eqS (er_ev0 (er_var 3)) er_str)) (fun t S3 g3 => ?_) (fun t S3 g3 => s_end (fin S3 ev ((g1.trans g2).trans g3) hev))
  have hk : ev.kind = "go" := of_decide_eq_true t
  refine s_for (α := Int) (xs := rangeI 0 F.robots.length) PassesOwn.never rfl (it_rangeN b_range (er_var 2) (by omega)) (bg_name 4 nd) fun S4 g4 => ?_
  refine ⟨fun rr Γ' S' => ∃ r : Int, Γ' = [some ⟨F⟩, some ⟨v⟩, some ⟨(F.robots.length : Int)⟩, some ⟨Ev.one "go" r⟩, none, none] ∧ Grow S S' ∧ Same S4.G S'.G ∧ 0 ≤ r ∧ r < F.robots.length, ?_, fun rr Γ' S' ⟨_, _, _, h, _⟩ => h, ?_, ?_⟩
  · cases ev with
    | ord a b => exact absurd (show ("order" : Str) = "go" from hk) (by decide)
    | one k r =>
      have hk : k = "go" := hk
      subst hk
      obtain ⟨_, r0, r1⟩ : (_ ∨ _) ∧ 0 ≤ r ∧ r < (F.robots.length : Int) := hev
      exact ⟨r, rfl, ((g1.trans g2).trans g3).trans g4, Same.refl _, r0, r1⟩
  · rintro pre x rr Γ' S' hx ⟨r, rfl, gS, s4, r0, r1⟩ S5 g5
    refine s_if (tr_cmp (cv_isN (ER.old (er_callN cal_act_of (u := (F, r, ())) (ar_cons (er_var 0) (ar_cons (er_ev1 (e := .one "go" r) (er_var 3)) ar_nil)) ⟨ok, r0, r1⟩)))) (fun t S6 g6 => ?_) (fun t S6 g6 => s_end (s_next (.keep (.keep (.keep (.keep (.drop (.drop .nil)))))) ⟨r, rfl, (gS.trans g5).trans g6, s4.trans (g5.trans g6).g, r0, r1⟩))
    refine s_set (x := Ev.one "go" ((r + 1) % (F.robots.length : Int))) 3 nd (er_evOne er_str (er_mod (er_intI b_int (er_add (er_ev1 (e := .one "go" r) (er_var 3)) er_int)) (er_var 2) (by omega))) fun S7 g7 => s_end (s_next (.keep (.keep (.keep (.keep (.drop (.drop .nil)))))) ?_)
    exact ⟨_, rfl, ((gS.trans g5).trans g6).trans g7, s4.trans ((g5.trans g6).trans g7).g, Int.emod_nonneg _ (by omega), Int.emod_lt_of_pos _ (by omega)⟩
  · rintro Γ' S' ⟨r, rfl, gS, s4, r0, r1⟩
    exact s_end (fin S' _ gS ⟨.inr (.inr rfl), r0, r1⟩)
/-- events that could happen, one behind the other, and the fleet behind them -/
def HistOk (F : Flt) (es : List Ev) (G : Flt) : Prop := runOk F es ∧ runF F es = G ∧ ∀ e ∈ es, EvS e
theorem run_snoc : ∀ {es : List Ev} {F : Flt} {e : Ev}, runOk F es → e.Ok → okEv (runF F es) e = true → runOk F (es ++ [e])
  | [], F, e, _, h1, h2 => ⟨h1, h2, trivial⟩
  | x :: es, F, e, h, h1, h2 => by
    obtain ⟨a, b, d⟩ : x.Ok ∧ okEv F x = true ∧ runOk (happenF F x) es := h
    exact ⟨a, b, run_snoc (es := es) (F := happenF F x) d h1 h2⟩
theorem runF_snoc {es : List Ev} {F : Flt} {e : Ev} : runF F (es ++ [e]) = happenF (runF F es) e := by
  unfold runF
  rw [List.foldl_append]
  rfl
theorem next_law {F G : Flt} (h : LawF F) (n : Next F G) : LawF G := ⟨n.ok, by rw [n.s.nr]; exact h.r1, by rw [n.s.fl]; exact h.st⟩
theorem evS_ok {e : Ev} (h : EvS e) : e.Ok := evin_ok h
theorem cal_law_history : Cal "_law_history" 16 (Spc (fun a : Flt × List Int × Unit => LawF a.1 ∧ a.1.orders = [] ∧ a.2.1.length ≤ 14) fun a (y : List Ev × Flt) => HistOk a.1 y.1 y.2 ∧ y.1.length ≤ 14) := by
  refine mkCal (d := d_law_history) i_law_history sc_law_history g_law_history (fun f cdv A outer s S a Q E hp hX hq => ?_) (hb := fun _ _ _ _ _ _ us hl => match us, hl with | [_, _], _ => rfl)
  obtain ⟨F, vs, ⟨⟩⟩ := a
  obtain ⟨lf, ho, h14⟩ : LawF F ∧ F.orders = [] ∧ vs.length ≤ 14 := hp
  replace hq : ∀ S1 u (z : List Ev × Flt), Grow S S1 → Rp.rep S1.G u z → HistOk F z.1 z.2 ∧ z.1.length ≤ 14 → Q u S1.H := hq
  have nd := sc_law_history.nd
  show SB _ _ _ [some ⟨F⟩, some ⟨vs⟩, none, none, none] S
  refine s_setN (α := Ev) 2 nd en_lst0 fun S1 p g1 p0 m1 => ?_
  refine s_for (α := Int) (xs := vs) PassesOwn.never rfl (it_list (er_var 1)) (bg_name 3 nd) fun S2 g2 => ?_
  refine ⟨fun rr Γ' S' => ∃ (es : List Ev) (G : Flt), Γ' = [some ⟨G⟩, some ⟨vs⟩, some ⟨(⟨p⟩ : Adr)⟩, none, none] ∧ Grow S S' ∧ Same S2.G S'.G ∧ ML S' p es ∧ HistOk F es G ∧ LawF G ∧ es.length + rr.length ≤ 14 ∧ G.orders.length ≤ es.length,
    ⟨[], F, rfl, g1.trans g2, Same.refl _, m1.up g2, ⟨trivial, rfl, (fun e h => by cases h)⟩, lf, by rw [List.length_nil]; omega, by rw [ho]; exact Nat.le_refl _⟩, fun rr Γ' S' ⟨_, _, _, _, h, _⟩ => h, ?_, ?_⟩
  · rintro pre x rr Γ' S' hx ⟨es, G, rfl, gS, s2, m, ⟨h1, h2, h3⟩, lg, hl, hgo⟩ S3 g3
    rw [List.length_cons] at hl
    refine s_setV 4 nd (ev_call cal_law_then (u := (G, x, ())) (ar_cons (er_var 0) (ar_cons (er_var 3) ar_nil)) ⟨lg, by show G.orders.length < 1000; omega⟩) fun S4 y g4 hy => ?_
    obtain ⟨y1, y2⟩ := y
    rcases (show ThenOk G (y1, y2) from hy) with ⟨e1, e2⟩ | ⟨ev, e1, hev, hok, e2⟩
    · have e1 : y1 = none := e1
      have e2 : y2 = G := e2
      subst e1 e2
      refine s_if (t := false) (tr_cmp (cv_notN (o := (none : Option Ev)) (er_fst (z := ((none : Option Ev), y2)) (er_var 4)))) (fun t => nomatch t) (fun _ S5 g5 => s_end ?_)
      refine s_set (x := y2) 0 nd (er_snd (z := ((none : Option Ev), y2)) (er_var 4)) fun S6 g6 => s_next (.keep (.keep (.keep (.drop (.drop .nil))))) ?_
      exact ⟨es, y2, rfl, (((gS.trans g3).trans g4).trans g5).trans g6, s2.trans (((g3.trans g4).trans g5).trans g6).g, (((m.up g3).up g4).up g5).up g6, ⟨h1, h2, h3⟩, lg, by omega, hgo⟩
    · have e1 : y1 = some ev := e1
      have e2 : y2 = happenF G ev := e2
      subst e1 e2
      refine s_if (t := true) (tr_cmp (cv_notN (o := some ev) (er_fst (z := (some ev, happenF G ev)) (er_var 4)))) (fun _ S5 g5 => ?_) (fun t => nomatch t)
      refine s_app (x := ev) (((m.up g3).up g4).up g5) (er_var 2) (er_out (x := ev) (er_fst (z := (some ev, happenF G ev)) (er_var 4))) (by omega) fun S6 u6 m6 => s_end ?_
      refine s_set (x := happenF G ev) 0 nd (er_snd (z := (some ev, happenF G ev)) (er_var 4)) fun S7 g7 => s_next (.keep (.keep (.keep (.drop (.drop .nil))))) ?_
      have nx := happen_ok lg.ok (by omega) hok
      refine ⟨es ++ [ev], happenF G ev, rfl, ((((gS.trans g3).trans g4).trans g5).upd p0 u6).trans g7, ((s2.trans ((g3.trans g4).trans g5).g).trans u6.g).trans g7.g, m6.up g7, ⟨run_snoc h1 (evS_ok hev) (by rw [h2]; exact hok), by rw [runF_snoc, h2], fun e he => ?_⟩, next_law lg nx, by rw [List.length_append, List.length_singleton]; omega, by rw [List.length_append, List.length_singleton]; have := nx.no; omega⟩
      rcases List.mem_append.mp he with he | he
      · exact h3 e he
      · rw [List.mem_singleton.mp he]; exact hev
  · rintro Γ' S' ⟨es, G, rfl, gS, s2, m, hh, lg, hl, hgo⟩
    refine SB.fixM 2 gS p0 m fun S3 e3 g3 s3 hn3 => ?_
    exact s_ret (x := (es, G)) (er_pair (er_var 2) (er_var 0)) fun S4 u g4 rv => hq S4 u _ (g3.trans g4) rv ⟨hh, by rw [List.length_nil] at hl; show es.length ≤ 14; omega⟩
end
end Fl

set_option Elab.async false
set_option linter.all false
set_option maxRecDepth 100000
set_option maxHeartbeats 4000000
namespace Fl
open PySem PySem.Spec PyProof.Rows L2
/-! ### plain data -/
structure Dat where
  d : PyData
section
variable [c : Ctx]
instance rpDat : Rp Dat := ⟨fun H v x => ∀ H', Same H H' → Dp c.K H' v x.d, fun s h H' s' => h H' (s.trans s')⟩
theorem dp_all {H : Hp} : ∀ {vs : List V} {xs : List Dat}, reps H vs xs → ∀ H', Same H H' → DpAll c.K H' vs (xs.map (·.d))
  | _, _, .nil, _, _ => .nil
  | _, _, .cons a b, H', s => .cons (a H' s) (dp_all b H' s)
theorem rep_tupD {H : Hp} {a : Addr} {vs : List V} {xs : List Dat} (h : H a = some (.tup vs)) (r : reps H vs xs) : Rp.rep H (.ref a) (⟨.tuple (xs.map (·.d))⟩ : Dat) := fun H' s => .tup (SqT.of (s _ _ h)) (dp_all r H' s)
section
variable {X : Cx} {a b d e f : Expr} {Γ : Gm} {S : HS} {pos : Pos} {x y z u t : Dat} {i : Int} {bb : Bool}
theorem er_dI (h : ER X a Γ S i) : ER X a Γ S (⟨.int i⟩ : Dat) := fun σ hσ S1 g Q k => h σ hσ S1 g Q fun S2 v g2 r => k S2 v g2 fun H' _ => by
  cases (show v = V.int i from r)
  exact .int i
theorem er_dB (h : ER X a Γ S bb) : ER X a Γ S (⟨.bool bb⟩ : Dat) := fun σ hσ S1 g Q k => h σ hσ S1 g Q fun S2 v g2 r => k S2 v g2 fun H' _ => by
  cases (show v = V.bl bb from r)
  exact .bl bb
def optD : Option Int → PyData
  | none => .none
  | some i => .int i
theorem er_dO {o : Option Int} (h : ER X a Γ S o) : ER X a Γ S (⟨optD o⟩ : Dat) := fun σ hσ S1 g Q k => h σ hσ S1 g Q fun S2 v g2 r => k S2 v g2 fun H' _ => by
  cases o with
  | none =>
    cases (show v = V.non from r)
    exact .non
  | some i =>
    cases (show v = V.int i from r.2)
    exact .int i
theorem er_dT {xs : List Dat} (h : ER X a Γ S (⟨xs⟩ : Tpl Dat)) : ER X a Γ S (⟨.tuple (xs.map (·.d))⟩ : Dat) := fun σ hσ S1 g Q k => h σ hσ S1 g Q fun S2 v g2 r => k S2 v g2 (by
  obtain ⟨p, vs, e, h2, r2⟩ := r
  rw [e]
  exact rep_tupD h2 r2)
theorem er_dTI {xs : List Int} (h : ER X a Γ S (⟨xs⟩ : Tpl Int)) : ER X a Γ S (⟨.tuple (xs.map PyData.int)⟩ : Dat) := fun σ hσ S1 g Q k => h σ hσ S1 g Q fun S2 v g2 r => k S2 v g2 (by
  obtain ⟨p, vs, e, h2, r2⟩ := r
  rw [e]
  have r3 : ∀ {vs : List V} {xs : List Int}, reps S2.G vs xs → reps S2.G vs (xs.map fun i => (⟨.int i⟩ : Dat)) := fun {vs xs} h => by
    induction h with
    | nil => exact .nil
    | cons a b ih =>
      refine .cons (fun H' _ => ?_) ih
      rw [show _ = V.int _ from a]
      exact .int _
  have q := rep_tupD h2 (r3 r2)
  rw [List.map_map] at q
  exact q)
theorem er_dtup3 {kk : Nat} (h1 : ER X a Γ S x) (h2 : ER X b Γ S y) (h3 : ER X d Γ S z) (s1 : starEach [a, b, d] X.env = (false, eval a X.env) :: starEach [b, d] X.env := by rfl) (s2 : starEach [b, d] X.env = (false, eval b X.env) :: starEach [d] X.env := by rfl) (s3 : starEach [d] X.env = [(false, eval d X.env)] := by rfl) :
    ER X (.Tuple [a, b, d] kk pos) Γ S (⟨.tuple [x.d, y.d, z.d]⟩ : Dat) := fun σ hσ S1 g Q k => w_pe (pe_tup (pa_cons pe_w (pa_cons pe_w (pa_cons pe_w pa_nil s3) s2) s1)) (h1 σ hσ S1 g _ fun S2 u g2 ru => h2 σ hσ S2 (g.trans g2) _ fun S3 v g3 rv => h3 σ hσ S3 ((g.trans g2).trans g3) _ fun S4 w g4 rw' =>
    ⟨(by show 3 ≤ sizeLine; decide), fun p hp => k (S4.new p _ hp) _ (((g2.trans g3).trans g4).trans (.new S4 p _ hp)) (rep_tupD (xs := [x, y, z]) HS.new_at (.cons (Rp.mono ((g3.trans g4).trans (.new S4 p _ hp)).g ru) (.cons (Rp.mono (g4.trans (.new S4 p _ hp)).g rv) (.cons (Rp.mono (Grow.new S4 p _ hp).g rw') .nil))))⟩)
theorem er_dtup5 {kk : Nat} (h1 : ER X a Γ S x) (h2 : ER X b Γ S y) (h3 : ER X d Γ S z) (h4 : ER X e Γ S u) (h5 : ER X f Γ S t) (s1 : starEach [a, b, d, e, f] X.env = (false, eval a X.env) :: starEach [b, d, e, f] X.env := by rfl) (s2 : starEach [b, d, e, f] X.env = (false, eval b X.env) :: starEach [d, e, f] X.env := by rfl)
    (s3 : starEach [d, e, f] X.env = (false, eval d X.env) :: starEach [e, f] X.env := by rfl) (s4 : starEach [e, f] X.env = (false, eval e X.env) :: starEach [f] X.env := by rfl) (s5 : starEach [f] X.env = [(false, eval f X.env)] := by rfl) :
    ER X (.Tuple [a, b, d, e, f] kk pos) Γ S (⟨.tuple [x.d, y.d, z.d, u.d, t.d]⟩ : Dat) := fun σ hσ S1 g Q k => w_pe (pe_tup (pa_cons pe_w (pa_cons pe_w (pa_cons pe_w (pa_cons pe_w (pa_cons pe_w pa_nil s5) s4) s3) s2) s1)) (h1 σ hσ S1 g _ fun S2 v1 g2 r1 => h2 σ hσ S2 (g.trans g2) _ fun S3 v2 g3 r2 => h3 σ hσ S3 ((g.trans g2).trans g3) _ fun S4 v3 g4 r3 => h4 σ hσ S4 (((g.trans g2).trans g3).trans g4) _ fun S5 v4 g5 r4 => h5 σ hσ S5 ((((g.trans g2).trans g3).trans g4).trans g5) _ fun S6 v5 g6 r5 =>
    ⟨(by show 5 ≤ sizeLine; decide), fun p hp => k (S6.new p _ hp) _ (((((g2.trans g3).trans g4).trans g5).trans g6).trans (.new S6 p _ hp)) (rep_tupD (xs := [x, y, z, u, t]) HS.new_at (.cons (Rp.mono ((((g3.trans g4).trans g5).trans g6).trans (.new S6 p _ hp)).g r1) (.cons (Rp.mono (((g4.trans g5).trans g6).trans (.new S6 p _ hp)).g r2) (.cons (Rp.mono ((g5.trans g6).trans (.new S6 p _ hp)).g r3) (.cons (Rp.mono (g6.trans (.new S6 p _ hp)).g r4) (.cons (Rp.mono (Grow.new S6 p _ hp).g r5) .nil))))))⟩)
theorem cv_eqDat {k0 : Nat} [hX : InC k0 X] (ha : ER X a Γ S x) (hb : ER X b Γ S y) (sx : SeqAt.shaped x.d = true) (sy : SeqAt.shaped y.d = true) : CV X .Eq a b Γ S (PyData.eqv x.d y.d) := cv_of (op_eqD (by have := hX.room.un; omega)) ha hb fun S2 u w Q ru rb k => ⟨x.d, y.d, by rw [hX.K]; exact ru _ S2.le, by rw [hX.K]; exact rb _ S2.le, sx, sy, k⟩
end
def robD (r : Rob) : PyData := .tuple [.int r.place, .bool r.broken, .tuple (r.way.map PyData.int)]
def odrD (o : Odr) : PyData := .tuple [.int o.start, .int o.goal, .bool o.done, optD o.robot, .bool o.loaded]
def toldD (F : Flt) : PyData := .tuple [.tuple (F.robots.map robD), .tuple (F.orders.map odrD), .int F.patience]
theorem cal_law_told : Cal "_law_told" 1 (Spf (fun a : Flt × Unit => a.1.Few) fun a => (⟨toldD a.1⟩ : Dat)) := by
  refine mkCal (d := d_law_told) i_law_told sc_law_told g_law_told (fun f cdv A outer s S a Q E hp hX hq => ?_) (hb := fun _ _ _ _ _ _ us hl => match us, hl with | [_], _ => rfl)
  obtain ⟨F, ⟨⟩⟩ := a
  obtain ⟨h1, h2⟩ : F.Few := hp
  replace hq : ∀ S1 u (z : Dat), Grow S S1 → Rp.rep S1.G u z → z = ⟨toldD F⟩ → Q u S1.H := hq
  have nd := sc_law_told.nd
  show SB _ _ _ [some ⟨F⟩, none, none, none, none] S
  refine s_setLc (xs := F.robots) (h := fun r : Rob => (⟨robD r⟩ : Dat)) 2 1 rfl nd (it_list (eFlt_robots (er_var 0))) (by omega) (blkOk_by (N := N_law_told) (sc := defScope s_law_told) (by decide +kernel)) (fun x hx S4 g4 X' hb => ?_) (fun S1 q1 g1 hq1 m1 => ?_) (sw_true rfl rfl rfl (by decide +kernel))
  · obtain ⟨_, _, _, _, _, rfl⟩ := hb
    exact er_dtup3 (er_dI (eRob_place (er_var 1))) (er_dB (eRob_broken (er_var 1))) (er_dTI (er_tuple b_tuple (eRob_way (er_var 1))))
  refine SB.fixM 2 g1 hq1 m1 fun S2 e2 g2 s2 hn2 => ?_
  refine s_setLc (xs := F.orders) (h := fun o : Odr => (⟨odrD o⟩ : Dat)) 4 3 rfl nd (it_list (eFlt_orders (er_var 0))) (by omega) (blkOk_by (N := N_law_told) (sc := defScope s_law_told) (by decide +kernel)) (fun x hx S4 g4 X' hb => ?_) (fun S3 q3 g3 hq3 m3 => ?_) (sw_true rfl rfl rfl (by decide +kernel))
  · obtain ⟨_, _, _, _, _, rfl⟩ := hb
    exact er_dtup5 (er_dI (eOdr_start (er_var 3))) (er_dI (eOdr_goal (er_var 3))) (er_dB (eOdr_done (er_var 3))) (er_dO (eOdr_robot (er_var 3))) (er_dB (eOdr_loaded (er_var 3)))
  refine SB.fixM 4 g3 hq3 m3 fun S4 e4 g4 s4 hn4 => ?_
  refine s_ret (x := (⟨toldD F⟩ : Dat)) (er_eq (er_dtup3 (er_dT (er_tuple b_tuple (er_var 2))) (er_dT (er_tuple b_tuple (er_var 4))) (er_dI (eFlt_patience (er_var 0)))) ?_) fun S5 v g5 rv => hq S5 v _ ((g2.trans g4).trans g5) rv rfl
  unfold toldD
  rw [List.map_map, List.map_map]
  rfl
theorem lay_ints : ∀ l : List Int, PyData.canLayAll0 (l.map PyData.int) = true ∧ PyData.depthAll (l.map PyData.int) = 0
  | [] => ⟨rfl, rfl⟩
  | x :: r => by
    obtain ⟨h1, h2⟩ := lay_ints r
    refine ⟨?_, ?_⟩
    · show (PyData.canLay0 (.int x) && PyData.canLayAll0 (r.map PyData.int)) = true
      rw [h1]
      rfl
    · show max 0 (PyData.depthAll (r.map PyData.int)) = 0
      rw [h2]
      rfl
theorem lay_all {α : Type} {f : α → PyData} {n : Nat} : ∀ l : List α, (∀ x ∈ l, (f x).canLay0 = true ∧ (f x).depth ≤ n) → PyData.canLayAll0 (l.map f) = true ∧ PyData.depthAll (l.map f) ≤ n
  | [], _ => ⟨rfl, Nat.zero_le _⟩
  | x :: r, h => by
    obtain ⟨h1, h2⟩ := lay_all r fun y hy => h y (List.mem_cons_of_mem _ hy)
    obtain ⟨h3, h4⟩ := h x List.mem_cons_self
    refine ⟨?_, ?_⟩
    · show (PyData.canLay0 (f x) && PyData.canLayAll0 (r.map f)) = true
      rw [h1, h3]
      rfl
    · show max (f x).depth (PyData.depthAll (r.map f)) ≤ n
      exact Nat.max_le.mpr ⟨h4, h2⟩
theorem lay_rob (r : Rob) : (robD r).canLay0 = true ∧ (robD r).depth ≤ 5 := by
  obtain ⟨h1, h2⟩ := lay_ints r.way
  refine ⟨?_, ?_⟩
  · show (true && (true && (PyData.canLayAll0 (r.way.map PyData.int) && true))) = true
    rw [h1]
    rfl
  · show max 0 (max 0 (max (PyData.depthAll (r.way.map PyData.int) + 1) 0)) + 1 ≤ 5
    rw [h2]
    decide
theorem lay_odr (o : Odr) : (odrD o).canLay0 = true ∧ (odrD o).depth ≤ 5 := by
  unfold odrD
  cases o.robot with
  | none => exact ⟨rfl, by show 1 ≤ 5; decide⟩
  | some i => exact ⟨rfl, by show 1 ≤ 5; decide⟩
theorem told_shaped (F : Flt) : SeqAt.shaped (toldD F) = true := by
  obtain ⟨h1, h2⟩ := lay_all (f := robD) F.robots fun x _ => lay_rob x
  obtain ⟨h3, h4⟩ := lay_all (f := odrD) F.orders fun x _ => lay_odr x
  unfold SeqAt.shaped
  have a : (toldD F).canLay0 = true := by
    show (PyData.canLayAll0 (F.robots.map robD) && (PyData.canLayAll0 (F.orders.map odrD) && (true && true))) = true
    rw [h1, h3]
    rfl
  have b : (toldD F).depth ≤ 64 := by
    show max (PyData.depthAll (F.robots.map robD) + 1) (max (PyData.depthAll (F.orders.map odrD) + 1) (max 0 0)) + 1 ≤ 64
    omega
  rw [a, decide_eq_true b]
  rfl
end
end Fl

set_option Elab.async false
set_option linter.all false
set_option maxRecDepth 100000
set_option maxHeartbeats 4000000
namespace Fl
open PySem PySem.Spec PyProof.Rows L2
section
variable [c : Ctx]
theorem TB.upd {S S1 : HS} {p : Addr} (h : TB S) (u : Upd S p S1) (ne : wP (c := c) ≠ p) : TB S1 := by
  obtain ⟨h1, ps, e, ht⟩ := h
  exact ⟨u.n _ (by rw [e]; exact fun z => nomatch z) h1, ps, u.h _ ne _ e, ht⟩
section
variable {α β : Type} [Rp α] [Rp β] {X : Cx} {a b e o : Expr} {Γ : Gm} {S : HS} {pos : Pos} {p : Addr} {B : HS → Prop} {P1 : α → Prop} {D : Ends} {rest : List Stmt}
/-- f(e), where e changes p -/
theorem eu_call1 {pre : α × Unit → Prop} {post : α × Unit → β → Prop} {k j : Nat} {nm : Str} {np : Pos} [hX : InC k X] (C : Cal nm j (Spc pre post)) (hup : ∀ S1 S2 : HS, B S1 → Grow S1 S2 → B S2) (hth : ∀ S1, B S1 → S1.H p ≠ none) (ha : EU B X a Γ S p P1) (hp : ∀ x, P1 x → pre (x, ())) (hj : j ≤ k := by decide) (hg : Gl X nm := by rfl) (hdb : (nm == ("__debug__" : Str)) = false := by decide)
    (h1 : starEach [a] X.env = (false, eval a X.env) :: starEach [] X.env := by rfl) (hpl : (backTo pos (starEach [] X.env)).any (·.1) = false := by rfl) :
    EU B X (.Call (.Name nm np) [a] [] pos) Γ S p (fun z => ∃ x, P1 x ∧ post (x, ()) z) := fun σ hσ S1 g hB Q kk => by
  obtain ⟨f, fd, ps, F, hm, hk, hbd⟩ := C.ex
  refine w_pe (pe_call (fn_in hX F) (hX.room.mono hj) hg (by rw [hX.mg]; exact hm) (by rw [hX.K]; exact hk) (by rw [hX.K]; exact hbd) .nil pass0 (pa_cons pe_w pa_nil h1) hdb h1 hpl) (ha σ hσ S1 g hB _ fun S2 v x u2 hB2 r hx => ?_)
  exact ⟨S2, (x, ()), rfl, ⟨v, _, rfl, r, rfl⟩, hp x hx, fun S4 u z g4 r4 p4 => kk S4 u z (u2.trans (g4.toUpd p) (hth _ hB2)) (hup _ _ hB2 g4) r4 ⟨x, hx, p4⟩⟩
/-- _law_rows(box, most) -/
theorem eb_rows {k0 : Nat} {np : Pos} {most : Int} [hX : InC k0 X] (ha : ER X a Γ S (⟨p⟩ : Adr)) (hb : ER X b Γ S most) (m0 : 0 < most ∧ most ≤ 6) (hj : 3 ≤ k0 := by decide) (hg : Gl X "_law_rows" := by rfl) (he : starEach [a, b] X.env = (false, eval a X.env) :: starEach [b] X.env := by rfl)
    (hs2 : starEach [b] X.env = [(false, eval b X.env)] := by rfl) (hpl : (backTo pos (starEach [b] X.env)).any (·.1) = false := by rfl) : EU (BXP p) X (.Call (.Name "_law_rows" np) [a, b] [] pos) Γ S p (fun y : List Str => ∃ ts, MapOk ts ∧ y = ts.map rowS) := fun σ hσ S1 g hB Q k => by
  obtain ⟨f, fd, ps, FF, hm, hk, hbd⟩ := (cal_law_rows (c := c)).ex
  refine w_pe (pe_call (fn_in hX FF) (hX.room.mono hj) hg (by rw [hX.mg]; exact hm) (by rw [hX.K]; exact hk) (by rw [hX.K]; exact hbd) .nil pass0 (pa_cons pe_w (pa_cons pe_w pa_nil hs2) he) (by decide) he hpl) (ha σ hσ S1 g _ fun S2 u g2 ru => hb σ hσ S2 (g.trans g2) _ fun S3 v g3 rv => ?_)
  cases (show u = V.ref p from ru)
  cases (show v = V.int most from rv)
  exact ⟨S3, p, most, rfl, rfl, BX.up hB (g2.trans g3), m0, fun S4 w ts u4 b4 ok rw' => k S4 w _ (u4.after (g2.trans g3)) b4 rw' ⟨ts, ok, rfl⟩⟩
/-- box = _law_box(script, lo, hi) -/
theorem s_setBox {k0 : Nat} {np : Pos} {nm : Str} {pos' : Pos} {es : List Expr} {x : Scr} {lo hi : Int} [hX : InC k0 X] (i : Nat) (hN : X.N.Nodup) (ha : AR X (a :: es) Γ S (x, lo, hi, ())) (hb : 0 ≤ lo ∧ lo ≤ 100 ∧ 0 ≤ hi ∧ hi ≤ 100) (k : ∀ (S1 : HS) (p : Addr), Grow S S1 → S.H p = none → BX S1 p → SB X rest D (Γ.set i (some ⟨(⟨p⟩ : Adr)⟩)) S1) (hj : 2 ≤ k0 := by decide) (hg : Gl X "_law_box" := by rfl)
    (hi' : X.N[i]? = some nm := by rfl) (hx : Loc X.env.scope nm := by first | exact Or.inl rfl | exact Or.inr rfl) (hs : swapsWith (.Call (.Name "_law_box" np) (a :: es) [] pos) (some (.Name nm pos')) pos.line X.env = pure false := by rfl)
    (hf : X.fn nm = true ∨ X.env.scope.names.lookup nm = some .local := by first | exact .inl rfl | exact .inr rfl)
    (he : starEach (a :: es) X.env = (false, eval a X.env) :: starEach es X.env := by rfl) (hpl : (backTo pos (starEach es X.env)).any (·.1) = false := by rfl) {pos2 : Pos} (hs2 : swapsWith (.Call (.Name "_law_box" np) (a :: es) [] pos) (some (.Name nm pos')) pos2.line X.env = pure false := by rfl) : SB X (.Assign [.Name nm pos'] (.Call (.Name "_law_box" np) (a :: es) [] pos) pos2 :: rest) D Γ S := fun σ hσ => by
  obtain ⟨f, fd, ps, FF, hm, hk, hbd⟩ := (cal_law_box (c := c)).ex
  refine w_cons (w_ps (ps_set hN hi' hx pe_w hs2 hf) (w_pe (pe_call (fn_in hX FF) (hX.room.mono hj) hg (by rw [hX.mg]; exact hm) (by rw [hX.K]; exact hk) (by rw [hX.K]; exact hbd) .nil pass0 pa_w (by decide) he hpl) (ha σ hσ S (.refl _) _ fun S2 vs g2 r => ?_)))
  exact ⟨S2, (x, lo, hi, ()), rfl, by rw [List.append_nil]; exact r, hb, fun S3 p g3 p0 hB => k S3 p (g2.trans g3) (g2.h.free p0) hB _ (Slots.set (t := ⟨(⟨p⟩ : Adr)⟩) (hσ.mono (g2.trans g3).g) i rfl)⟩
end
/-- the fleet at the start -/
def freshF (fl : Flo) (n : Nat) (m : Int) : Flt := ⟨fl, m, List.replicate n ⟨fl.depot, false, []⟩, []⟩
theorem fresh_law {fl : Flo} {n : Nat} {m : Int} (ok : fl.Ok) (st : fl.stations.length ≤ 3) (n1 : 1 ≤ n) (n4 : n ≤ 4) (m0 : 0 ≤ m) (m4 : m ≤ 1000) : LawF (freshF fl n m) := by
  refine ⟨⟨ok, by show (List.replicate n _).length ≤ 4; rw [List.length_replicate]; exact n4, fun r hr => ?_, ?_, Nat.zero_le _, (fun o ho => by cases ho), m0, m4⟩, by show 1 ≤ (List.replicate n _).length; rw [List.length_replicate]; exact n1, st⟩
  · rw [List.eq_of_mem_replicate hr]
    exact ⟨by show (0 : Int) ≤ (fl.near.length : Int); omega, Int.le_refl _, (fun x hx => by cases hx), fun _ => rfl, fun _ z => absurd rfl z⟩
  · show ((List.replicate n (⟨fl.depot, false, []⟩ : Rob)).map (·.way)).flatten.Nodup
    rw [List.map_replicate]
    have : (List.replicate n ([] : List Int)).flatten = [] := by
      rw [List.flatten_eq_nil_iff]
      intro l hl
      exact List.eq_of_mem_replicate hl
    rw [this]
    exact List.nodup_nil
/-- what _law_start gives: a triple with the fleet in the middle -/
structure St3 where
  F : Flt
instance rpSt3 : Rp St3 := ⟨fun H v x => ∃ a u w z, v = .ref a ∧ H a = some (.tup [u, w, z]) ∧ Rp.rep H w x.F, fun s ⟨a, u, w, z, e, h, r⟩ => ⟨a, u, w, z, e, s _ _ h, Rp.mono s r⟩⟩
theorem er_st1 {X : Cx} {a : Expr} {Γ : Gm} {S : HS} {pos p2 : Pos} {n} {x : St3} (ha : ER X a Γ S x) : ER X (.Subscript a (.Constant (.int 1) n p2) pos) Γ S x.F := fun σ hσ S1 g Q k =>
  w_pe (pe_ix ix_tup pe_w pe_int (fun _ _ => rfl)) (ha σ hσ S1 g _ fun S2 u g2 r => by
    obtain ⟨p, v1, v2, v3, e1, e2, r2⟩ := r
    exact ⟨p, _, 1, v2, e1, rfl, SqT.of (S2.le _ _ e2), rfl, k S2 _ g2 r2⟩)
def StartOk (F : Flt) : Prop := ∃ fl n m, F = freshF fl n m ∧ LawF F ∧ n ≤ 4
def SpSt : Sp := fun vs H Q _ => ∃ (S : HS) (x : Scr) (most : Int), S.H = H ∧ Args.reps S.G vs (x, most, ()) ∧ most = 4 ∧ TB S ∧ ∀ (S1 : HS) (v : V) (y : St3), Same S.G S1.G → Rp.rep S1.G v y → StartOk y.F → Q v S1.H
theorem cal_law_start : Cal "_law_start" 7 SpSt := by
  obtain ⟨fd, FF, G⟩ := fn_sp (d := d_law_start) (i := i_law_start) (sp := SpSt) (k := 6) rfl sc_law_start (fun vs H Q E ⟨S, x, m, _, e, _⟩ => Args.len e) (fun f cdv A outer s H vs Q E hX h => by
    obtain ⟨S, x, most, rfl, hr, rfl, hT, hq⟩ := h
    have nd := sc_law_start.nd
    have hlv : vs.length = 2 := Args.len hr
    have hs : Slots S.G (L2.start N_law_start vs) [some ⟨x⟩, some ⟨(4 : Int)⟩, none, none, none, none] := by
      have q : Slots S.G (vs.map some ++ List.replicate 4 none) (Args.gm (x, (4 : Int), ()) 4) := Args.sl hr
      unfold L2.start
      rw [hlv]
      exact q
    refine (show SB (bx d_law_start N_law_start f cdv A outer s S.H E) (defBody s_law_start) { nx := fun _ H' => Q .non H', rt := Q } [some ⟨x⟩, some ⟨(4 : Int)⟩, none, none, none, none] S from ?_) _ hs
    refine s_setBox (lo := 0) (hi := 5) 2 nd (ar_cons (er_var 0) (ar_cons er_int (ar_cons er_int ar_nil))) (by decide) fun S1 p g1 p0 B1 => ?_
    have T1 := hT.up g1
    have ne : wP (c := c) ≠ p := fun z => hT.there (by rw [z]; exact p0)
    obtain ⟨bb, hbb⟩ : ∃ bb : Bool, bb = decide (lawCell x.l 0 % 16 = 3) := ⟨_, rfl⟩
    refine s_set (x := 4 + 2 * (if bb = true then 1 else 0 : Int)) 1 nd (er_add (er_var 1) (er_mul er_int (by rw [hbb]; exact er_intB b_int (er_cmp (cv_eqI (er_mod (er_intI b_int (er_call cal_law_cell (u := (x, 0, ())) (ar_cons (er_var 0) (ar_cons er_int ar_nil)) (show (0 : Int) ≤ 0 by decide))) er_int (by decide)) er_int))) (by cases bb <;> exact .inl ⟨by decide, by decide⟩))) fun S2 g2 => ?_
    have hm6 : 0 < 4 + 2 * (if bb = true then 1 else 0 : Int) ∧ 4 + 2 * (if bb = true then 1 else 0 : Int) ≤ 6 := by cases bb <;> decide
    refine s_setU (B := BXP p) (p := p) 3 nd (B1.up g2) (eu_call1 cal_law_world bx_up bx_th (eb_rows (er_var 2) (er_var 1) hm6) (fun y hy => hy)) fun S3 w u3 B3 hw => ?_
    obtain ⟨ts, ok, ew⟩ : ∃ ts, MapOk ts ∧ w.text = mapText ts := by
      obtain ⟨y, ⟨ts, ok, e⟩, h⟩ := hw
      exact ⟨ts, ok, h ts ok e⟩
    have T3 : TB S3 := (T1.up g2).upd u3 ne
    refine s_setU (B := BXP p) (p := p) 4 nd B3 (eu_addI er_int bx_up bx_th (eb_draw (er_var 2) er_int (by decide))) fun S4 R u4 B4 hR => ?_
    obtain ⟨n, hn, n1, n4⟩ : ∃ n : Nat, R = (n : Int) ∧ 1 ≤ n ∧ n ≤ 4 := by
      obtain ⟨y, ⟨y0, y1⟩, rfl⟩ := hR
      exact ⟨(1 + y).toNat, by omega, by omega, by omega⟩
    subst hn
    have T4 : TB S4 := T3.upd u4 ne
    have s04 : Same S.G S4.G := ((g1.g.trans g2.g).trans u3.g).trans u4.g
    intro σ hσ
    obtain ⟨fdF, FI, GI⟩ := init_Fleet (c := c)
    have hX2 : InC 6 (bx d_law_start N_law_start f cdv A outer s S.H E) := hX
    refine w_cons (w_ps (ps_set (i := 5) nd rfl (by first | exact Or.inl rfl | exact Or.inr rfl) (pe_makeK (by rw [hX.K]; exact mk_Fleet) (fn_in hX FI) (hX.room.mono (by decide)) rfl (by rw [hX.mg]; exact g_Fleet) (by rw [hX.K]; exact kb_Fleet GI) pass0 (pa_cons pe_w pa_nil rfl) (pk_cons pe_w (pk_cons pe_w pk_nil)) rfl rfl (by decide) rfl rfl) rfl (by first | exact .inl rfl | exact .inr rfl)) ?_)
    refine (eu_call cal_read_floor (u := (w.text, ())) (ar_cons (er_wtext (er_var 3)) ar_nil) ⟨ts, ok, ew⟩ : EU TB _ _ [some ⟨x⟩, some ⟨4 + 2 * (if bb = true then 1 else 0 : Int)⟩, some ⟨(⟨p⟩ : Adr)⟩, some ⟨w⟩, some ⟨(n : Int)⟩, none] S4 _ _) σ hσ S4 (.refl _) T4 _ fun S5 v1 fl u5 T5 r1 hfl => ?_
    obtain ⟨flok, fl3⟩ : fl.Ok ∧ fl.stations.length ≤ 3 := hfl
    have B5 : BX S5 p := BX.upd B4 u5 ne.symm
    have hσ5 := hσ.mono u5.g
    refine (er_var 4 : ER _ _ [some ⟨x⟩, some ⟨4 + 2 * (if bb = true then 1 else 0 : Int)⟩, some ⟨(⟨p⟩ : Adr)⟩, some ⟨w⟩, some ⟨(n : Int)⟩, none] S5 (n : Int)) σ hσ5 S5 (.refl _) _ fun S6 v2 g6 r2 => ?_
    refine (eu_addI er_int bx_up bx_th (eb_draw (er_var 2) er_int (by decide)) : EU (BXP p) _ _ [some ⟨x⟩, some ⟨4 + 2 * (if bb = true then 1 else 0 : Int)⟩, some ⟨(⟨p⟩ : Adr)⟩, some ⟨w⟩, some ⟨(n : Int)⟩, none] S5 p _) σ hσ5 S6 g6 (B5.up g6) _ fun S7 v3 m u7 B7 r3 hm => ?_
    obtain ⟨m1, m4⟩ : 1 ≤ m ∧ m ≤ 4 := by
      obtain ⟨y, ⟨y0, y1⟩, rfl⟩ := hm
      omega
    refine ⟨rfl, rfl, fun xx dx hx hdx hne => ?_⟩
    refine ⟨S7.bare xx dx _ hx hdx, xx, (fl, (n : Int), m, ()), [v1, v2, v3], rfl, rfl, ⟨v1, _, rfl, Rp.mono (g6.g.trans u7.g) r1, v2, _, rfl, Rp.mono u7.g r2, v3, _, rfl, r3, rfl⟩, ⟨by show (0 : Int) ≤ (n : Int); omega, by show (n : Int) ≤ 1000; omega⟩, ⟨S7.le.free hx, dx, [], upd_same, .nil⟩, fun S8 u8 m8 => ⟨rfl, ?_⟩⟩
    obtain ⟨S9, e9, _, s9, r9, _⟩ := m8.fixed (S0 := emptyS) empty_grow rfl
    have eF : flFltA (fl, (n : Int), m, ()) = flFlt (freshF fl n m) := by
      show flFlt ⟨fl, m, List.replicate (n : Int).toNat ⟨fl.depot, false, []⟩, []⟩ = _
      rw [Int.toNat_natCast]
      rfl
    rw [eF] at r9
    have rF : Rp.rep S9.G (.ref xx) (freshF fl n m) := r9
    have lf := fresh_law flok fl3 n1 n4 (by omega : 0 ≤ m) (by omega)
    have s49 : Same S4.G S9.G := (((u5.g.trans g6.g).trans u7.g).trans ((Grow.bare (hx := hx) (hd := hdx)).g.trans u8.g)).trans s9
    have hσ9 : Slots S9.G (σ.set 5 (some (.ref xx))) [some ⟨x⟩, some ⟨4 + 2 * (if bb = true then 1 else 0 : Int)⟩, some ⟨(⟨p⟩ : Adr)⟩, some ⟨w⟩, some ⟨(n : Int)⟩, some ⟨freshF fl n m⟩] := Slots.set (t := ⟨freshF fl n m⟩) (hσ.mono s49) 5 rF
    rw [← e9]
    refine w_cons (w_ps (ps_ret (pe_tup (pa_cons pe_w (pa_cons pe_w (pa_cons pe_w pa_nil rfl) rfl) rfl))) ?_)
    refine (er_var 3 : ER _ _ [some ⟨x⟩, some ⟨4 + 2 * (if bb = true then 1 else 0 : Int)⟩, some ⟨(⟨p⟩ : Adr)⟩, some ⟨w⟩, some ⟨(n : Int)⟩, some ⟨freshF fl n m⟩] S9 w) _ hσ9 S9 (.refl _) _ fun S10 a1 g10 q1 => ?_
    refine (er_var 5 : ER _ _ [some ⟨x⟩, some ⟨4 + 2 * (if bb = true then 1 else 0 : Int)⟩, some ⟨(⟨p⟩ : Adr)⟩, some ⟨w⟩, some ⟨(n : Int)⟩, some ⟨freshF fl n m⟩] S9 (freshF fl n m)) _ hσ9 S10 g10 _ fun S11 a2 g11 q2 => ?_
    refine (er_var 2 : ER _ _ [some ⟨x⟩, some ⟨4 + 2 * (if bb = true then 1 else 0 : Int)⟩, some ⟨(⟨p⟩ : Adr)⟩, some ⟨w⟩, some ⟨(n : Int)⟩, some ⟨freshF fl n m⟩] S9 (⟨p⟩ : Adr)) _ hσ9 S11 (g10.trans g11) _ fun S12 a3 g12 q3 => ?_
    refine ⟨(by show 3 ≤ sizeLine; decide), fun t ht => ?_⟩
    exact hq (S12.new t _ ht) _ ⟨freshF fl n m⟩ (s04.trans (s49.trans (((g10.trans g11).trans g12).trans (.new S12 t _ ht)).g)) ⟨t, a1, a2, a3, rfl, HS.new_at, Rp.mono (g12.trans (.new S12 t _ ht)).g q2⟩ ⟨fl, n, m, rfl, lf, n4⟩)
  exact ⟨_, fd, _, FF, g_law_start, G.kp, FunD.bindsN G (fun _ _ _ _ _ _ us hl => match us, hl with | [_, _], _ => rfl)⟩
end
end Fl

set_option Elab.async false
set_option linter.all false
set_option maxRecDepth 100000
set_option maxHeartbeats 4000000
namespace Fl
open PySem PySem.Spec PyProof.Rows L2
theorem next_empty {F : Flt} (h : F.orders = []) : nextOrder F = none := by
  unfold nextOrder
  have hb := firstOpen_bd F
  have hl : lastOf F ≤ F.orders.length := by unfold lastOf; split <;> omega
  rw [h] at hb hl
  have e : (lastOf F - F.firstOpen).toNat = 0 := by
    have h1 : lastOf F ≤ 0 := hl
    have h2 : 0 ≤ F.firstOpen := hb.1
    omega
  rw [e]
  rfl
theorem run_none [Ctx] : ∀ (es : List Ev) {F : Flt}, F.Ok → F.orders.length + es.length < 1000 → runOk F es → (es = [] → nextOrder F = none) → nextOrder (runF F es) = none ∧ (runF F es).Ok ∧ (runF F es).orders.length ≤ F.orders.length + es.length
  | [], F, ok, _, _, h => ⟨h rfl, ok, Nat.le_refl _⟩
  | e :: es, F, ok, hl, hr, _ => by
    obtain ⟨h1, h2, h3⟩ : e.Ok ∧ okEv F e = true ∧ runOk (happenF F e) es := hr
    rw [List.length_cons] at hl
    have nx := happen_ok ok (by omega) h2
    have no := nx.no
    obtain ⟨a, b, d⟩ := run_none es (F := happenF F e) nx.ok (by omega) h3 (fun _ => happen_none ok (by omega) h2)
    exact ⟨a, b, by rw [List.length_cons]; exact Nat.le_trans d (by omega)⟩
def SpLawK (K : PySem.W.Frag) : Sp := fun vs H Q _ => ∃ (a : Addr) (ns : List Int), vs = [.ref a] ∧ ns.length ≤ 63 ∧ H (He.tabOf K (He.codeOf K ("whole_problem", none))) = some (.tbl #[]) ∧ SqL K H a (ns.map V.int) ∧ ∀ H', Q (.bl true) H'
section
variable [c : Ctx]
section
variable {α β γ : Type} [Rp α] [Rp β] [Rp γ] {X : Cx} {a b : Expr} {Γ : Gm} {S : HS} {pos : Pos} {P2 : β → Prop} {pre : α × β × Unit → Prop} {post : α × β × Unit → γ → Prop}
/-- f(a, e), e of some value -/
theorem ev_call2 {k j : Nat} {nm : Str} {np : Pos} {x : α} [hX : InC k X] (C : Cal nm j (Spc pre post)) (ha : ER X a Γ S x) (hb : EV X b Γ S P2) (hp : ∀ y, P2 y → pre (x, y, ())) (hj : j ≤ k := by decide) (hg : Gl X nm := by rfl) (hdb : (nm == ("__debug__" : Str)) = false := by decide)
    (h1 : starEach [a, b] X.env = (false, eval a X.env) :: starEach [b] X.env := by rfl) (h2 : starEach [b] X.env = (false, eval b X.env) :: starEach [] X.env := by rfl) (hpl : (backTo pos (starEach [b] X.env)).any (·.1) = false := by rfl) :
    EV X (.Call (.Name nm np) [a, b] [] pos) Γ S (fun z => ∃ y, P2 y ∧ post (x, y, ()) z) := fun σ hσ S1 g Q kk => by
  obtain ⟨f, fd, ps, F, hm, hk, hbd⟩ := C.ex
  refine w_pe (pe_call (fn_in hX F) (hX.room.mono hj) hg (by rw [hX.mg]; exact hm) (by rw [hX.K]; exact hk) (by rw [hX.K]; exact hbd) .nil pass0 (pa_cons pe_w (pa_cons pe_w pa_nil h2) h1) hdb h1 hpl) (ha σ hσ S1 g _ fun S2 v g2 r => hb σ hσ S2 (g.trans g2) _ fun S3 w y g3 rw' hy => ?_)
  exact ⟨S3, (x, y, ()), rfl, ⟨v, _, rfl, Rp.mono g3.g r, w, _, rfl, rw', rfl⟩, hp y hy, fun S4 u z g4 r4 p4 => kk S4 u z ((g2.trans g3).trans g4) r4 ⟨y, hy, p4⟩⟩
end
theorem law_body (f : Addr) (cdv : Value) (A : Around) (outer : List Env) (s : Shared) (H : Hp) (vs : List V) (Q : VK) (E : XK) (hX : InC 16 (bx d_law N_law f cdv A outer s H E)) (h : SpLawK c.K vs H Q E) : wB (bx d_law N_law f cdv A outer s H E) d_law.body { nx := fun _ H' => Q .non H', rt := Q } (L2.start N_law vs) H := by
  obtain ⟨a, ns, rfl, h63, hT, hS, hq⟩ := h
  have nd := sc_law.nd
  -- what is fixed: the script, if it is tracked
  obtain ⟨G0, hG⟩ : ∃ G0 : Hp, G0 = fun b => if b = a ∧ a ≠ wP (c := c) then H a else none := ⟨_, rfl⟩
  have le : Same G0 H := fun b u e => by
    rw [hG] at e
    by_cases hb : b = a ∧ a ≠ wP (c := c)
    · have e : (if b = a ∧ a ≠ wP (c := c) then H a else none) = some u := e
      rw [if_pos hb] at e
      rw [hb.1]
      exact e
    · have e : (if b = a ∧ a ≠ wP (c := c) then H a else none) = some u := e
      rw [if_neg hb] at e
      cases e
  have hTn : G0 (wP (c := c)) = none := by
    rw [hG]
    show (if wP (c := c) = a ∧ a ≠ wP (c := c) then H a else none) = none
    rw [if_neg (fun z => z.2 z.1.symm)]
  have hTB : TB (⟨G0, H, le⟩ : HS) := ⟨hTn, #[], hT, trivial⟩
  have rS : Rp.rep (⟨G0, H, le⟩ : HS).G (.ref a) (⟨ns⟩ : Scr) := by
    refine ⟨a, rfl, fun H' s' => ?_⟩
    rcases hS with hR | hK
    · have hne : a ≠ wP (c := c) := fun z => by
        rw [z] at hR
        rcases hR with hR | ⟨o, hR⟩
        · rw [show H (wP (c := c)) = some (.tbl #[]) from hT] at hR
          cases hR
        · rw [show H (wP (c := c)) = some (.tbl #[]) from hT] at hR
          cases hR
      have hGa : G0 a = H a := by
        rw [hG]
        show (if a = a ∧ a ≠ wP (c := c) then H a else none) = H a
        rw [if_pos ⟨rfl, hne⟩]
      rcases hR with hR | ⟨o, hR⟩
      · exact .inl (.inl (s' _ _ (hGa.trans hR)))
      · exact .inl (.inr ⟨o, s' _ _ (hGa.trans hR)⟩)
    · exact .inr hK
  have hσ : Slots (⟨G0, H, le⟩ : HS).G (L2.start N_law [.ref a]) [some ⟨(⟨ns⟩ : Scr)⟩, none, none, none] := Slots.cons (t := ⟨(⟨ns⟩ : Scr)⟩) rS (Slots.nones 3)
  obtain ⟨f1, fd1, ps1, F1, hm1, hk1, hb1⟩ := (cal_law_start (c := c)).ex
  have main : ∀ (S1 : HS) (F : Flt), StartOk F → SB (bx d_law N_law f cdv A outer s H E) ((defBody s_law).drop 1) { nx := fun _ H' => Q .non H', rt := Q } [some ⟨(⟨ns⟩ : Scr)⟩, some ⟨(⟨F⟩ : St3)⟩, none, none] S1 := by
    intro S1 F hF
    obtain ⟨fl, n, m, eF, lf, n4⟩ := hF
    have ok := lf.ok
    have hlen : F.robots.length = n := by rw [eF]; exact List.length_replicate
    have horders : F.orders = [] := by rw [eF]; rfl
    refine s_set (x := F) 2 nd (er_eq (NI.er (x := (⟨F.floor, F.patience, List.replicate (F.robots.length : Int).toNat ⟨F.floor.depot, false, []⟩, []⟩ : Flt)) (ni_Fleet (eFlt_floor (er_st1 (x := ⟨F⟩) (er_var 1))) (er_len b_len (eFlt_robots (er_st1 (x := ⟨F⟩) (er_var 1)))) (eFlt_patience (er_st1 (x := ⟨F⟩) (er_var 1))) (by show (0 : Int) ≤ (F.robots.length : Int); omega) (by show (F.robots.length : Int) ≤ 1000; omega)) fun H v h => h) (by rw [Int.toNat_natCast, hlen, eF]; rfl)) fun S2 g2 => ?_
    refine s_setV 3 nd (ev_call2 cal_law_history (er_st1 (x := ⟨F⟩) (er_var 1)) (ev_call cal_law_values (u := ((⟨ns⟩ : Scr), 5, 14, ())) (ar_cons (er_var 0) (ar_cons er_int (ar_cons er_int ar_nil))) ⟨(show (0 : Int) ≤ 5 by decide), (show (5 : Int) ≤ 100 by decide), (show (0 : Int) ≤ 14 by decide), (show (14 : Int) ≤ 100 by decide), by show ns.length ≤ 100000; omega⟩) (fun y hy => ⟨lf, horders, hy⟩)) fun S3 z g3 hz => ?_
    obtain ⟨es, G⟩ := z
    obtain ⟨_, _, ⟨h1, h2, h3⟩, h14⟩ := hz
    have h1 : runOk F es := h1
    have h2 : runF F es = G := h2
    have h3 : ∀ e ∈ es, EvS e := h3
    have h14 : es.length ≤ 14 := h14
    have hsum : F.orders.length + es.length < 1000 := by rw [horders, List.length_nil]; omega
    obtain ⟨r1, r2, r3⟩ := run_none es ok hsum h1 (fun _ => next_empty horders)
    rw [h2] at r1 r2
    have hlog : LogOk es := ⟨h3, by omega⟩
    refine s_if (t := false) (tr_eq (tr_cmp (cv_notN (er_call cal_next_order (u := (G, ())) (ar_cons (er_snd (z := (es, G)) (er_var 3)) ar_nil) r2))) (by show (nextOrder G).isSome = false; rw [r1]; rfl)) (fun t => nomatch t) (fun _ S4 g4 => s_end ?_)
    refine s_ret (er_cmp (cv_eqDat (er_call cal_law_told (u := (G, ())) (ar_cons (er_eq (er_call cal_run (u := (F, es, ())) (ar_cons (er_var 2) (ar_cons (er_eq (er_call cal_read_log (u := (logOf es, ())) (ar_cons (er_call cal_write_log (u := (es, ())) (ar_cons (er_fst (z := (es, G)) (er_var 3)) ar_nil) hlog) ar_nil) ⟨es, hlog, rfl⟩) (logEvs_back hlog)) ar_nil)) ⟨ok, hsum, h1⟩) h2) ar_nil) r2.few) (er_call cal_law_told (u := (G, ())) (ar_cons (er_snd (z := (es, G)) (er_var 3)) ar_nil) r2.few) (told_shaped G) (told_shaped G))) fun S5 v g5 rv => ?_
    have e : PyData.eqv (toldD G) (toldD G) = true := SeqAt.eqv_refl _ (SeqAt.canLay_of_shaped (told_shaped G))
    have rv : v = V.bl (PyData.eqv (toldD G) (toldD G)) := rv
    rw [e] at rv
    rw [rv]
    exact hq S5.H
  refine w_cons (w_ps (ps_set (i := 1) nd rfl (by first | exact Or.inl rfl | exact Or.inr rfl) (pe_call (fn_in hX F1) (hX.room.mono (by decide)) rfl (by rw [hX.mg]; exact hm1) (by rw [hX.K]; exact hk1) (by rw [hX.K]; exact hb1) .nil pass0 (pa_cons pe_w (pa_cons pe_w pa_nil rfl) rfl) (by decide) rfl rfl) rfl (by first | exact .inl rfl | exact .inr rfl)) ?_)
  refine (er_var 0 : ER _ _ [some ⟨(⟨ns⟩ : Scr)⟩, none, none, none] (⟨G0, H, le⟩ : HS) (⟨ns⟩ : Scr)) _ hσ (⟨G0, H, le⟩ : HS) (.refl _) _ fun S1 v1 g1 q1 => ?_
  refine (er_int : ER _ _ [some ⟨(⟨ns⟩ : Scr)⟩, none, none, none] (⟨G0, H, le⟩ : HS) (4 : Int)) _ hσ S1 g1 _ fun S2 v2 g2 q2 => ?_
  refine ⟨S2, (⟨ns⟩ : Scr), 4, rfl, ⟨v1, _, rfl, Rp.mono g2.g q1, v2, _, rfl, q2, rfl⟩, rfl, (hTB.up g1).up g2, fun S3 w y s3 rw' hy => ?_⟩
  exact main S3 y.F hy _ (Slots.set (t := ⟨y⟩) (((hσ.mono g1.g).mono g2.g).mono s3) 1 rw')
theorem law_ok {fd : FuncData} (F : FunD c.K d_law.name d_law.qual d_law.params d_law.body d_law.scope (d_law.dvs c.K) (d_law.kws c.K) (He.fAd c.K d_law.at_) fd) : FnOk PP c.w c.K c.mg c.base CX0 17 (He.fAd c.K d_law.at_) fd ["_law_script"] (SpLawK c.K) :=
  F.ok sc_law (fun vs H Q E ⟨a, ns, e, _⟩ => by rw [e]; rfl) (fun cdv A outer s H vs Q E hr h => ⟨_, PSs.nox pss_w, law_body _ cdv A outer s H vs Q E (inC_bx hr) h⟩)
end
end Fl

set_option Elab.async false
set_option linter.all false
set_option maxRecDepth 100000
set_option maxHeartbeats 4000000
namespace Fl
open PySem PySem.Spec PyProof.Rows L2
/-- the end with tables, the written part told by the head -/
theorem walk_ofTE {l : PySem.W.OpenLaw} {n k : Nat} {q : Program} {loose : List Str} {XP : (Str → Option Value) → Heap → Prop} {YP : World → Heap → Prop} {d : DefRec} {CX : CXT} {x : Str}
    (hn : l.most = some n) (hn2 : n ≤ sizeLine) (hdf : d.params.defaults = []) (hr : Room k callerA)
    (F : ∀ (w : World) (mg : Str → Option Value) (fa : Addr) (h : Heap), YP w h → h.Ns mainGlobals mg → mg d.name = some (.ref fa) → ∃ K : PySem.W.Frag, K.In h ∧ LamX.LawAtS l w K CX k n x mg fa h)
    (hCX : ∀ (H : Hp) (s : Shared) (e : Value) (s' : Shared), CX [] H s (fun _ _ _ => False) e s' → False) :
    PySem.W.WalkO q loose XP YP l.row.toRowW d [] (fun f vs => PySem.call f vs) := by
  refine Att.attach_callB hn hdf fun w s₀ s₁ mg mb fa o pm cd doc a vs ns G Y ho hd hcd hmg hobj hints hlen hbits hg => ?_
  obtain ⟨K, KX, fd, cs, sp, hT, nT, C, hb, hsp, hF⟩ := F w mg fa _ Y G.T.g hmg
  exact LamX.law_callTs KX G.T.g G.T.b G.T.builtins G.T.nolimit hg hT nT C G.T.bmain hobj hints (Nat.le_trans hlen hn2) hr hF hb (fun H hH hS => hsp H a ns hlen hbits hH hS) fun H e s' => hCX H s₁ e s'
theorem law_at (l : PySem.W.OpenLaw) (hl : l.prog = PP) (w : World) (mg : Str → Option Value) (fa' : Addr) (h : Heap) (Y : hk.says w h) (G : h.Ns mainGlobals mg) (hm : mg ("law" : Str) = some (.ref fa')) : ∃ K : PySem.W.Frag, K.In h ∧ LamX.LawAtS l w K CX0 17 63 "_law_script" mg fa' h := by
  obtain ⟨K, KX, c1, c2, c3, c4⟩ := Y
  let mk : ∀ base : Heap, K.In base → base.Ns mainGlobals mg → GxR.TabB base mg (He.codeOf K ("whole_problem", none)) (He.tabOf K (He.codeOf K ("whole_problem", none))) → Ctx := fun base h1 h2 h3 => ⟨K, w, mg, base, h1, h2, c1, c2, c3, h3⟩
  refine ⟨K, KX, ?_⟩
  obtain ⟨fd, FD⟩ := c1.d.def_ 91 (d := d_law) rfl
  have e1 : d_law.dvs K = [] := rfl
  have e2 : d_law.kws K = [] := rfl
  have b := FunD.bindsA (ps := ["_law_script"]) FD fun _ _ _ _ _ _ us hl => match us, hl with | [_], _ => rfl
  have eg : fa' = He.ga K "law" := by
    have g : mg ("law" : Str) = some (.ref (He.ga K "law")) := He.glo_ok KX G (c1.d.fact 79 (f := .glo "law") rfl)
    rw [hm] at g
    cases g
    rfl
  have ef : He.fAd K d_law.at_ = He.ga K "law" := rfl
  refine ⟨fd, [He.cT K pW], SpLawK K, ?_, ?_, ?_, fun s v => b s [v] rfl, ?_, ?_⟩
  · intro p hp
    rw [List.mem_singleton.mp hp]
    exact c4.empty
  · intro p hp
    rw [List.mem_singleton.mp hp]
    exact c4.out
  · intro p hp
    rw [List.mem_singleton.mp hp]
    exact PySem.W.codeHd_of_K KX c4.hd
  · intro H a ns h1 _ h2 h3
    exact ⟨a, ns, rfl, h1, h2 _ (List.mem_singleton.mpr rfl), h3, fun _ => rfl⟩
  · intro base h1 h2 h3
    have t := h3 _ (List.mem_singleton.mpr rfl)
    rw [hl, eg]
    exact law_ok (c := mk base h1 h2 ⟨t.code, t.bm, t.gP⟩) FD
end Fl

set_option Elab.async false
set_option linter.all false
open PySem PySem.W PySem.Calls PyProof.Rows
set_option maxRecDepth 100000 in
set_option maxHeartbeats 0 in
theorem PySem.Challenge.cw_clearfloor_k94_whole_the_log_is_the_flee_holds : PySem.Challenge.rw_clearfloor_k94_whole_the_log_is_the_flee.Holds := by
  w_on; o_law
  refine HandSHeadRun.head_any (r := Fl.R) (q := view Fl.R.prog [105]) (H := Fl.hk) (ob := Fl.ob) (M := 8000) (loose := Fl.lo) (d := HandSHeadRun.topDef Fl.R.prog 105) (kwd := []) Fl.ob_eq
    (by kernel_rfl) (fun s => by kernel_rfl) Fl.run (by kernel_rfl) (by kernel_rfl) (by kernel_rfl) (by rfl) (by first | assumption | decide +kernel) (by decide +kernel) ⟨rfl, rfl, rfl, rfl, rfl, by decide +kernel⟩ ?hw ?hc
  case hw => w_witness2
  case hc =>
    refine Fl.walk_ofTE (l := PySem.Challenge.rw_clearfloor_k94_whole_the_log_is_the_flee) (n := 63) (k := 17) (x := "_law_script") (CX := L2.CX0) rfl (by decide) (by kernel_rfl) ⟨rfl, by decide, by decide⟩ ?F (fun _ _ _ _ z => z)
    intro w mg fa h Y G hmg0
    have hmg : mg ("law" : PySem.Str) = some (.ref fa) := by
      have e : (HandSHeadRun.topDef Fl.R.prog 105).name = ("law" : PySem.Str) := by kernel_rfl
      rw [← e]
      exact hmg0
    exact Fl.law_at _ rfl w mg fa h Y G hmg

